/- Texts of this seat, joined: lemmas and walks that its statements' proofs use. -/
import Derived.Test.YteonhdfjfjpbjaaGreatDoorK1
import Derived.Test.YteonhdfjfjpbjaaGreatDoorK2
import Derived.Test.YteonhdfjfjpbjaaGreatDoorK3
import Derived.Test.YteonhdfjfjpbjaaGreatDoorK4
import Derived.OpenShut
import Derived.ChangeOld
/- Px34 -/
namespace Go.Proofs.YteonhdfjfjpbjaaGreatDoor.P
open Go.Proofs.YteonhdfjfjpbjaaGreatDoor.B
open Go.RowKit Go.Proofs.YteonhdfjfjpbjaaGreatDoorW.PrintWords Go.Proofs.YteonhdfjfjpbjaaGreatDoorW.PrintLast Go.Proofs.YteonhdfjfjpbjaaGreatDoorW.PrintMore
attribute [local go_sem] str_leq str_gtr str_geq max2_int min2_int max_two min_two max_three min_three max_four min_four   -- for this text's walks alone
set_option linter.unusedVariables false
set_option linter.unusedSimpArgs false

/-! ### broadsheetlaw05_Pieces: function 15 -/
def broadsheetlaw05_Pieces.l0 : Nat → List Int → List ByteArray → ByteArray → Int → Option (ByteArray)
  | 0, _, _, _, _ => none
  | k + 1, x0, x1, x5, x6 => if x6 < (x0.length : Int) then (if x6 < 12 then (if 0 ≤ x6 then (if (x1.length : Int) = 0 then (none) else (if 0 ≤ (Int.tmod (wrap64 (rd x0 x6)) (x1.length : Int)) then (if (Int.tmod (wrap64 (rd x0 x6)) (x1.length : Int)) < (x1.length : Int) then (if x5.size + (rdOf ByteArray.empty x1 (Int.tmod (wrap64 (rd x0 x6)) (x1.length : Int))).size ≤ 9223372036854775807 then (broadsheetlaw05_Pieces.l0 k x0 x1 (x5 ++ (rdOf ByteArray.empty x1 (Int.tmod (wrap64 (rd x0 x6)) (x1.length : Int)))) (wrap64 (x6 + 1))) else (none)) else (none)) else (none))) else (none)) else (some x5)) else (some x5)
def broadsheetlaw05_Pieces.f (k : Nat) (l0 : List Int) (l1 : List ByteArray) : Option (ByteArray) := broadsheetlaw05_Pieces.l0 k l0 l1 (⟨#[]⟩ : ByteArray) 0
theorem broadsheetlaw05_Pieces.mono_l : ∀ k, (∀ y0 y1 y2 y3, LeO (broadsheetlaw05_Pieces.l0 k y0 y1 y2 y3) (broadsheetlaw05_Pieces.l0 (k + 1) y0 y1 y2 y3))
  | 0 => fun _ _ _ _ r h => by simp [broadsheetlaw05_Pieces.l0] at h
  | k + 1 => by
    have ih0 := broadsheetlaw05_Pieces.mono_l k
    · intro y0 y1 y2 y3
      unfold broadsheetlaw05_Pieces.l0
      repeat' first
      | (with_reducible exact ih0 _ _ _ _)
      | (with_reducible exact LeO.refl _)
      | (with_reducible exact LeO.none _)
      | (with_reducible refine LeO.ite ?_ ?_)
      | (with_reducible refine LeO.bind ?_ (fun _ => ?_))
      | exact ih0 _ _ _ _
      | exact LeO.none _
      | refine LeO.ite ?_ ?_
      | refine LeO.bind ?_ (fun _ => ?_)
theorem broadsheetlaw05_Pieces.mono : ∀ a0 a1 k, LeO (broadsheetlaw05_Pieces.f k a0 a1) (broadsheetlaw05_Pieces.f (k + 1) a0 a1) := by
  intro a0 a1 k
  have ih0 := broadsheetlaw05_Pieces.mono_l k
  unfold broadsheetlaw05_Pieces.f
  repeat' first
      | (with_reducible exact ih0 _ _ _ _)
      | (with_reducible exact LeO.refl _)
      | (with_reducible exact LeO.none _)
      | (with_reducible refine LeO.ite ?_ ?_)
      | (with_reducible refine LeO.bind ?_ (fun _ => ?_))
      | exact ih0 _ _ _ _
      | exact LeO.none _
      | refine LeO.ite ?_ ?_
      | refine LeO.bind ?_ (fun _ => ?_)
set_option maxHeartbeats 8000000 in
set_option maxRecDepth 100000 in
theorem broadsheetlaw05_Pieces.calls (k : Nat) (A0 : Option Addr) (c0 : Nat) (l0 : List Int) (A1 : Option Addr) (c1 : Nat) (l1 : List ByteArray) (r : ByteArray) (w : World) (hr0 : Kd.C (Kd.int .u8) w A0 l0.length l0) (hc0 : l0.length ≤ c0) (hr1 : Kd.C Kd.string w A1 l1.length l1) (hc1 : l1.length ≤ c1) (h : broadsheetlaw05_Pieces.f k l0 l1 = some r) :
    Calls Tryz.prog 15 #[.slice A0 l0.length c0, .slice A1 l1.length c1] w fun e w' => e = .returned (.string r) ∧ Drawn0 w w' := by
  have HR0 := Aside0.mk hr0
  have HC0 := Aside0.mk hc0
  clear hr0 hc0
  have HR1 := Aside0.mk hr1
  have HC1 := Aside0.mk hc1
  clear hr1 hc1
  have H : (broadsheetlaw05_Pieces.l0 k l0 l1 (⟨#[]⟩ : ByteArray) 0) = some r := h
  clear h
  have H' := Aside0.mk H
  clear H
  go_enter Tryz.func15, Tryz.ntmps15
  go_wp2
  first | go_loopg [5, 6] k (fun kq v5 v6 w' => ∃ (x5_1 : ByteArray) (x6_1 : Int), v5 = .string x5_1 ∧ v6 = .int .i64 x6_1 ∧ Aside0 (broadsheetlaw05_Pieces.l0 kq l0 l1 x5_1 x6_1 = some r) ∧ Aside0 (kq ≤ k) ∧ Drawn0 w w') | (go_simp; go_loopg [5, 6] k (fun kq v5 v6 w' => ∃ (x5_1 : ByteArray) (x6_1 : Int), v5 = .string x5_1 ∧ v6 = .int .i64 x6_1 ∧ Aside0 (broadsheetlaw05_Pieces.l0 kq l0 l1 x5_1 x6_1 = some r) ∧ Aside0 (kq ≤ k) ∧ Drawn0 w w'))
  case atStart => exact ⟨((⟨#[]⟩ : ByteArray)), (0), (by first | rfl | (simp; done) | (simp [*]; done)), (by first | rfl | (simp; done) | (simp [*]; done)), H', ⟨Nat.le_refl _⟩, by repeat (first | exact Drawn0.refl _ | apply Drawn0.step)⟩
  case round =>
    clear H'
    try clear c1
    try clear p2
    obtain ⟨x5_1, x6_1, rfl, rfl, HA, HK1, ⟨m1, rfl⟩⟩ := hrel
    cases gk with
    | zero => exact absurd HA.out (by simp [broadsheetlaw05_Pieces.l0])
    | succ k1 =>
      have H := HA.out
      clear HA
      simp only [broadsheetlaw05_Pieces.l0] at H
      by_cases c3 : x6_1 < (l0.length : Int)
      · rw [if_pos c3] at H
        have c3b0 : decide (x6_1 < (l0.length : Int)) = true := decide_eq_true c3
        clear c3
        by_cases c4 : x6_1 < 12
        · rw [if_pos c4] at H
          have c4b0 : decide (x6_1 < 12) = true := decide_eq_true c4
          clear c4
          by_cases c5 : 0 ≤ x6_1
          · rw [if_pos c5] at H
            have c5b0 : decide (0 ≤ x6_1) = true := decide_eq_true c5
            clear c5
            by_cases c6 : (l1.length : Int) = 0
            · rw [if_pos c6] at H
              exact absurd H (by simp)
            · rw [if_neg c6] at H
              have c6b0 : ((l1.length : Int) == 0) = false := beq_eq_false_iff_ne.mpr c6
              have c6b1 : ((l1.length : Int) != 0) = true := bne_iff_ne.mpr c6
              have c6b2 : ¬ (l1 = []) := fun h_ => c6 (by rw [h_]; rfl)
              obtain ⟨ji7, hji7⟩ : ∃ j_ : Int, (Int.tmod (wrap64 (rd l0 x6_1)) (l1.length : Int)) = j_ := ⟨_, rfl⟩
              replace H : (if 0 ≤ (ji7) then (if (ji7) < (l1.length : Int) then (if x5_1.size + (rdOf ByteArray.empty l1 (ji7)).size ≤ 9223372036854775807 then (broadsheetlaw05_Pieces.l0 k1 l0 l1 (x5_1 ++ (rdOf ByteArray.empty l1 (ji7))) (wrap64 (x6_1 + 1))) else (none)) else (none)) else (none)) = some r := by first | (rw [hji7] at H; exact H) | (simp only [hji7] at H ⊢; exact H)
              by_cases c8 : 0 ≤ (ji7)
              · rw [if_pos c8] at H
                have c8b0 : decide (0 ≤ (ji7)) = true := decide_eq_true c8
                clear c8
                by_cases c9 : (ji7) < (l1.length : Int)
                · rw [if_pos c9] at H
                  have c9b0 : decide ((ji7) < (l1.length : Int)) = true := decide_eq_true c9
                  clear c9
                  by_cases c10 : x5_1.size + (rdOf ByteArray.empty l1 (ji7)).size ≤ 9223372036854775807
                  · rw [if_pos c10] at H
                    have c10b0 := eq_true c10
                    have c10b1 : decide (x5_1.size + (rdOf ByteArray.empty l1 (ji7)).size ≤ 9223372036854775807) = true := decide_eq_true c10
                    try have c10b2 : (9223372036854775807 < x5_1.size + (rdOf ByteArray.empty l1 (ji7)).size) = False := eq_false (Nat.not_lt.2 c10)
                    have H' := Aside0.mk H
                    clear H
                    have p280 : 0 ≤ (x6_1 : Int) := of_decide_eq_true (by first | (with_reducible assumption) | assumption)
                    have q280 : x6_1 < (l0.length : Int) := of_decide_eq_true (by first | (with_reducible assumption) | assumption)
                    obtain ⟨ad280, e280, hx280_0⟩ := Kd.at_int HR0.out x6_1 p280 q280
                    cases e280
                    replace p280 := eq_true p280
                    replace q280 := eq_true q280
                    have p281 : 0 ≤ ((ji7) : Int) := of_decide_eq_true (by first | (with_reducible assumption) | assumption)
                    have q281 : (ji7) < (l1.length : Int) := of_decide_eq_true (by first | (with_reducible assumption) | assumption)
                    obtain ⟨ad281, e281, hx281_0⟩ := Kd.at_string HR1.out (ji7) p281 q281
                    cases e281
                    replace p281 := eq_true p281
                    replace q281 := eq_true q281
                    go_wp2
                    go_roundg k1
                    case measure => have := HK1.out; omega
                    case rel => exact ⟨(x5_1 ++ (rdOf ByteArray.empty l1 (ji7))), (wrap64 (x6_1 + 1)), (by first | rfl | (simp; done) | (simp only [← hji7] <;> (first | rfl | simp)) | (simp [*]; done)), (by first | rfl | (simp; done) | (simp [*]; done)), H', ⟨by have := HK1.out; omega⟩, by repeat (first | exact Drawn0.refl _ | apply Drawn0.step)⟩
                  · rw [if_neg c10] at H
                    exact absurd H (by simp)
                · rw [if_neg c9] at H
                  exact absurd H (by simp)
              · rw [if_neg c8] at H
                exact absurd H (by simp)
          · rw [if_neg c5] at H
            exact absurd H (by simp)
        · rw [if_neg c4] at H
          have c4b0 : decide (x6_1 < 12) = false := decide_eq_false c4
          clear c4
          obtain rfl := Option.some.inj H
          go_wp2
          go_ret
          exact ⟨by first | rfl | (simp; done) | (simp [*]; done), by repeat (first | exact Drawn0.refl _ | apply Drawn0.step)⟩
      · rw [if_neg c3] at H
        have c3b0 : decide (x6_1 < (l0.length : Int)) = false := decide_eq_false c3
        clear c3
        obtain rfl := Option.some.inj H
        go_wp2
        go_ret
        exact ⟨by first | rfl | (simp; done) | (simp [*]; done), by repeat (first | exact Drawn0.refl _ | apply Drawn0.step)⟩

end Go.Proofs.YteonhdfjfjpbjaaGreatDoor.P

/- Px35 -/
namespace Go.Proofs.YteonhdfjfjpbjaaGreatDoor.P
open Go.Proofs.YteonhdfjfjpbjaaGreatDoor.B
open Go.RowKit Go.Proofs.YteonhdfjfjpbjaaGreatDoorW.PrintWords Go.Proofs.YteonhdfjfjpbjaaGreatDoorW.PrintLast Go.Proofs.YteonhdfjfjpbjaaGreatDoorW.PrintMore
attribute [local go_sem] str_leq str_gtr str_geq max2_int min2_int max_two min_two max_three min_three max_four min_four   -- for this text's walks alone
set_option linter.unusedVariables false
set_option linter.unusedSimpArgs false

open Go.Proofs.YteonhdfjfjpbjaaGreatDoor.O
/-! ### broadsheetlaw19_ChunkSmall: function 4 -/
def broadsheetlaw19_ChunkSmall.f (k : Nat) (l0 : List Int) : Option (Bool) := (broadsheetlaw05_Pieces.f k l0 (([(⟨#[51, 13, 10, 97, 98, 99, 13, 10]⟩ : ByteArray), (⟨#[48, 13, 10]⟩ : ByteArray), (⟨#[13, 10]⟩ : ByteArray), (⟨#[49]⟩ : ByteArray), (⟨#[59, 97, 61, 98]⟩ : ByteArray), (⟨#[120]⟩ : ByteArray), (⟨#[88, 58, 32, 121, 13, 10]⟩ : ByteArray), (⟨#[65, 13, 10, 48, 49, 50, 51, 52, 53, 54, 55, 56, 57, 13, 10]⟩ : ByteArray), (⟨#[48, 48]⟩ : ByteArray), (⟨#[32]⟩ : ByteArray), (⟨#[102, 102, 102, 102, 102, 102, 102]⟩ : ByteArray), (⟨#[50, 59, 99, 61, 34, 100, 34, 13, 10, 101, 102, 13, 10]⟩ : ByteArray), (⟨#[48, 13, 10, 13, 10]⟩ : ByteArray), (⟨#[13]⟩ : ByteArray), (⟨#[103]⟩ : ByteArray), (⟨#[49, 56, 54, 97, 48, 13, 10]⟩ : ByteArray)] : List ByteArray))).bind fun t285 => ((chunk_Decode.f k t285).bind fun bt286 => ((broadsheetref19_Decode.f k t285).bind fun bt289 => ((broadsheetlaw19_awake.f k).bind fun t292 => (if t292 = true then (if bt286.1.toList = bt289.1.toList then (if bt286.2.1.toList = bt289.2.1.toList then (some (bt286.2.2 == bt289.2.2)) else (some false)) else (some false)) else (some false)))))
theorem broadsheetlaw19_ChunkSmall.mono : ∀ a0 k, LeO (broadsheetlaw19_ChunkSmall.f k a0) (broadsheetlaw19_ChunkSmall.f (k + 1) a0) := by
  intro a0 k
  unfold broadsheetlaw19_ChunkSmall.f
  repeat' first
      | (with_reducible exact broadsheetlaw05_Pieces.mono _ _ _)
      | (with_reducible exact broadsheetlaw19_awake.mono _)
      | (with_reducible exact broadsheetref19_Decode.mono _ _)
      | (with_reducible exact chunk_Decode.mono _ _)
      | (with_reducible exact LeO.refl _)
      | (with_reducible exact LeO.none _)
      | (with_reducible refine LeO.ite ?_ ?_)
      | (with_reducible refine LeO.bind ?_ (fun _ => ?_))
      | exact broadsheetlaw05_Pieces.mono _ _ _
      | exact broadsheetlaw19_awake.mono _
      | exact broadsheetref19_Decode.mono _ _
      | exact chunk_Decode.mono _ _
      | exact LeO.none _
      | refine LeO.ite ?_ ?_
      | refine LeO.bind ?_ (fun _ => ?_)
set_option maxHeartbeats 8000000 in
set_option maxRecDepth 100000 in
theorem broadsheetlaw19_ChunkSmall.calls (k : Nat) (A0 : Option Addr) (c0 : Nat) (l0 : List Int) (r : Bool) (w : World) (hr0 : Kd.C (Kd.int .u8) w A0 l0.length l0) (hc0 : l0.length ≤ c0) (hG : Glob w) (h : broadsheetlaw19_ChunkSmall.f k l0 = some r) :
    Calls Tryz.prog 4 #[.slice A0 l0.length c0] w fun e w' => e = .returned (.bool r) ∧ Below w.heap.size w w' := by
  have HR0 := Aside0.mk hr0
  have HC0 := Aside0.mk hc0
  clear hr0 hc0
  have HB := Aside0.mk (Below.refl w.heap.size w)
  have hGA := Aside0.mk hG
  clear hG
  have H : ((broadsheetlaw05_Pieces.f k l0 (([(⟨#[51, 13, 10, 97, 98, 99, 13, 10]⟩ : ByteArray), (⟨#[48, 13, 10]⟩ : ByteArray), (⟨#[13, 10]⟩ : ByteArray), (⟨#[49]⟩ : ByteArray), (⟨#[59, 97, 61, 98]⟩ : ByteArray), (⟨#[120]⟩ : ByteArray), (⟨#[88, 58, 32, 121, 13, 10]⟩ : ByteArray), (⟨#[65, 13, 10, 48, 49, 50, 51, 52, 53, 54, 55, 56, 57, 13, 10]⟩ : ByteArray), (⟨#[48, 48]⟩ : ByteArray), (⟨#[32]⟩ : ByteArray), (⟨#[102, 102, 102, 102, 102, 102, 102]⟩ : ByteArray), (⟨#[50, 59, 99, 61, 34, 100, 34, 13, 10, 101, 102, 13, 10]⟩ : ByteArray), (⟨#[48, 13, 10, 13, 10]⟩ : ByteArray), (⟨#[13]⟩ : ByteArray), (⟨#[103]⟩ : ByteArray), (⟨#[49, 56, 54, 97, 48, 13, 10]⟩ : ByteArray)] : List ByteArray))).bind fun t285 => ((chunk_Decode.f k t285).bind fun bt286 => ((broadsheetref19_Decode.f k t285).bind fun bt289 => ((broadsheetlaw19_awake.f k).bind fun t292 => (if t292 = true then (if bt286.1.toList = bt289.1.toList then (if bt286.2.1.toList = bt289.2.1.toList then (some (bt286.2.2 == bt289.2.2)) else (some false)) else (some false)) else (some false)))))) = some r := h
  clear h
  obtain ⟨y282, hy282⟩ : ∃ y_ : List ByteArray, y_ = (([(⟨#[51, 13, 10, 97, 98, 99, 13, 10]⟩ : ByteArray), (⟨#[48, 13, 10]⟩ : ByteArray), (⟨#[13, 10]⟩ : ByteArray), (⟨#[49]⟩ : ByteArray), (⟨#[59, 97, 61, 98]⟩ : ByteArray), (⟨#[120]⟩ : ByteArray), (⟨#[88, 58, 32, 121, 13, 10]⟩ : ByteArray), (⟨#[65, 13, 10, 48, 49, 50, 51, 52, 53, 54, 55, 56, 57, 13, 10]⟩ : ByteArray), (⟨#[48, 48]⟩ : ByteArray), (⟨#[32]⟩ : ByteArray), (⟨#[102, 102, 102, 102, 102, 102, 102]⟩ : ByteArray), (⟨#[50, 59, 99, 61, 34, 100, 34, 13, 10, 101, 102, 13, 10]⟩ : ByteArray), (⟨#[48, 13, 10, 13, 10]⟩ : ByteArray), (⟨#[13]⟩ : ByteArray), (⟨#[103]⟩ : ByteArray), (⟨#[49, 56, 54, 97, 48, 13, 10]⟩ : ByteArray)] : List ByteArray)) := ⟨_, rfl⟩
  replace H : ((broadsheetlaw05_Pieces.f k l0 y282).bind fun t285 => ((chunk_Decode.f k t285).bind fun bt286 => ((broadsheetref19_Decode.f k t285).bind fun bt289 => ((broadsheetlaw19_awake.f k).bind fun t292 => (if t292 = true then (if bt286.1.toList = bt289.1.toList then (if bt286.2.1.toList = bt289.2.1.toList then (some (bt286.2.2 == bt289.2.2)) else (some false)) else (some false)) else (some false)))))) = some r := by first | (rw [hy282]; with_reducible exact H) | (have H2_ := (Option.bind_some _ _).symm.trans H; rw [hy282]; with_reducible exact H2_) | (have H2_ := (Option.bind_some _ _).symm.trans H; with_reducible exact H2_) | with_reducible exact H | (rw [hy282]; exact H) | exact H
  have Ny282 := Aside0.mk hy282
  clear hy282
  replace H := Option.bind_eq_some_iff.mp H
  obtain ⟨t285, A20, H⟩ := H
  replace H : ((chunk_Decode.f k t285).bind fun bt286 => ((broadsheetref19_Decode.f k t285).bind fun bt289 => ((broadsheetlaw19_awake.f k).bind fun t292 => (if t292 = true then (if bt286.1.toList = bt289.1.toList then (if bt286.2.1.toList = bt289.2.1.toList then (some (bt286.2.2 == bt289.2.2)) else (some false)) else (some false)) else (some false))))) = some r := H
  have A2 := Aside0.mk A20
  clear A20
  replace H := Option.bind_eq_some_iff.mp H
  obtain ⟨⟨t286, t287, t288⟩, A30, H⟩ := H
  replace H : ((broadsheetref19_Decode.f k t285).bind fun bt289 => ((broadsheetlaw19_awake.f k).bind fun t292 => (if t292 = true then (if t286.toList = bt289.1.toList then (if t287.toList = bt289.2.1.toList then (some (t288 == bt289.2.2)) else (some false)) else (some false)) else (some false)))) = some r := H
  have A3 := Aside0.mk A30
  clear A30
  replace H := Option.bind_eq_some_iff.mp H
  obtain ⟨⟨t289, t290, t291⟩, A40, H⟩ := H
  replace H : ((broadsheetlaw19_awake.f k).bind fun t292 => (if t292 = true then (if t286.toList = t289.toList then (if t287.toList = t290.toList then (some (t288 == t291)) else (some false)) else (some false)) else (some false))) = some r := H
  have A4 := Aside0.mk A40
  clear A40
  replace H := Option.bind_eq_some_iff.mp H
  obtain ⟨t292, A50, H⟩ := H
  replace H : (if t292 = true then (if t286.toList = t289.toList then (if t287.toList = t290.toList then (some (t288 == t291)) else (some false)) else (some false)) else (some false)) = some r := H
  have A5 := Aside0.mk A50
  clear A50
  by_cases c6 : t292 = true
  · subst c6
    have H1 : (if t286.toList = t289.toList then (if t287.toList = t290.toList then (some (t288 == t291)) else (some false)) else (some false)) = some r := by rw [if_pos rfl] at H; exact H
    clear H
    have H := H1
    clear H1
    by_cases c7 : t286.toList = t289.toList
    · rw [if_pos c7] at H
      have c7b0 : (t286.toList == t289.toList) = true := beq_iff_eq.mpr c7
      have c7b1 : (t286.toList != t289.toList) = false := bne_eq_false_iff_eq.mpr c7
      clear c7
      by_cases c8 : t287.toList = t290.toList
      · rw [if_pos c8] at H
        have c8b0 : (t287.toList == t290.toList) = true := beq_iff_eq.mpr c8
        have c8b1 : (t287.toList != t290.toList) = false := bne_eq_false_iff_eq.mpr c8
        clear c8
        obtain rfl := Option.some.inj H
        go_enter Tryz.func4, Tryz.ntmps4
        go_wp2_with (first | ((with_reducible refine gate_dst (N := 11) rfl ?_); refine Kd.R_lit Kd.string _ 9 ?hg (N := 11) ?hd (xs := ([(⟨#[51, 13, 10, 97, 98, 99, 13, 10]⟩ : ByteArray), (⟨#[48, 13, 10]⟩ : ByteArray), (⟨#[13, 10]⟩ : ByteArray), (⟨#[49]⟩ : ByteArray), (⟨#[59, 97, 61, 98]⟩ : ByteArray), (⟨#[120]⟩ : ByteArray), (⟨#[88, 58, 32, 121, 13, 10]⟩ : ByteArray), (⟨#[65, 13, 10, 48, 49, 50, 51, 52, 53, 54, 55, 56, 57, 13, 10]⟩ : ByteArray), (⟨#[48, 48]⟩ : ByteArray), (⟨#[32]⟩ : ByteArray), (⟨#[102, 102, 102, 102, 102, 102, 102]⟩ : ByteArray), (⟨#[50, 59, 99, 61, 34, 100, 34, 13, 10, 101, 102, 13, 10]⟩ : ByteArray), (⟨#[48, 13, 10, 13, 10]⟩ : ByteArray), (⟨#[13]⟩ : ByteArray), (⟨#[103]⟩ : ByteArray), (⟨#[49, 56, 54, 97, 48, 13, 10]⟩ : ByteArray)] : List ByteArray)) (inner := [.string (⟨#[51, 13, 10, 97, 98, 99, 13, 10]⟩ : ByteArray), .string (⟨#[48, 13, 10]⟩ : ByteArray), .string (⟨#[13, 10]⟩ : ByteArray), .string (⟨#[49]⟩ : ByteArray), .string (⟨#[59, 97, 61, 98]⟩ : ByteArray), .string (⟨#[120]⟩ : ByteArray), .string (⟨#[88, 58, 32, 121, 13, 10]⟩ : ByteArray), .string (⟨#[65, 13, 10, 48, 49, 50, 51, 52, 53, 54, 55, 56, 57, 13, 10]⟩ : ByteArray), .string (⟨#[48, 48]⟩ : ByteArray), .string (⟨#[32]⟩ : ByteArray), .string (⟨#[102, 102, 102, 102, 102, 102, 102]⟩ : ByteArray), .string (⟨#[50, 59, 99, 61, 34, 100, 34, 13, 10, 101, 102, 13, 10]⟩ : ByteArray), .string (⟨#[48, 13, 10, 13, 10]⟩ : ByteArray), .string (⟨#[13]⟩ : ByteArray), .string (⟨#[103]⟩ : ByteArray), .string (⟨#[49, 56, 54, 97, 48, 13, 10]⟩ : ByteArray)]) (ok := fun _ => True) (okp := fun _ => True) ?hr ?hp (fun _ hk => hk) trivial (Below.refl _ _) (Nat.le_refl _) (by simp) ?_; (case hd => rfl); (case hg => rfl); (case hr => first | (go_simp; done) | (go_simp; rfl)); (case hp => exact (Reps.one (show Kd.M Kd.string _ _ _ (⟨#[51, 13, 10, 97, 98, 99, 13, 10]⟩ : ByteArray) [.string (⟨#[51, 13, 10, 97, 98, 99, 13, 10]⟩ : ByteArray)] from rfl) (Reps.one (show Kd.M Kd.string _ _ _ (⟨#[48, 13, 10]⟩ : ByteArray) [.string (⟨#[48, 13, 10]⟩ : ByteArray)] from rfl) (Reps.one (show Kd.M Kd.string _ _ _ (⟨#[13, 10]⟩ : ByteArray) [.string (⟨#[13, 10]⟩ : ByteArray)] from rfl) (Reps.one (show Kd.M Kd.string _ _ _ (⟨#[49]⟩ : ByteArray) [.string (⟨#[49]⟩ : ByteArray)] from rfl) (Reps.one (show Kd.M Kd.string _ _ _ (⟨#[59, 97, 61, 98]⟩ : ByteArray) [.string (⟨#[59, 97, 61, 98]⟩ : ByteArray)] from rfl) (Reps.one (show Kd.M Kd.string _ _ _ (⟨#[120]⟩ : ByteArray) [.string (⟨#[120]⟩ : ByteArray)] from rfl) (Reps.one (show Kd.M Kd.string _ _ _ (⟨#[88, 58, 32, 121, 13, 10]⟩ : ByteArray) [.string (⟨#[88, 58, 32, 121, 13, 10]⟩ : ByteArray)] from rfl) (Reps.one (show Kd.M Kd.string _ _ _ (⟨#[65, 13, 10, 48, 49, 50, 51, 52, 53, 54, 55, 56, 57, 13, 10]⟩ : ByteArray) [.string (⟨#[65, 13, 10, 48, 49, 50, 51, 52, 53, 54, 55, 56, 57, 13, 10]⟩ : ByteArray)] from rfl) (Reps.one (show Kd.M Kd.string _ _ _ (⟨#[48, 48]⟩ : ByteArray) [.string (⟨#[48, 48]⟩ : ByteArray)] from rfl) (Reps.one (show Kd.M Kd.string _ _ _ (⟨#[32]⟩ : ByteArray) [.string (⟨#[32]⟩ : ByteArray)] from rfl) (Reps.one (show Kd.M Kd.string _ _ _ (⟨#[102, 102, 102, 102, 102, 102, 102]⟩ : ByteArray) [.string (⟨#[102, 102, 102, 102, 102, 102, 102]⟩ : ByteArray)] from rfl) (Reps.one (show Kd.M Kd.string _ _ _ (⟨#[50, 59, 99, 61, 34, 100, 34, 13, 10, 101, 102, 13, 10]⟩ : ByteArray) [.string (⟨#[50, 59, 99, 61, 34, 100, 34, 13, 10, 101, 102, 13, 10]⟩ : ByteArray)] from rfl) (Reps.one (show Kd.M Kd.string _ _ _ (⟨#[48, 13, 10, 13, 10]⟩ : ByteArray) [.string (⟨#[48, 13, 10, 13, 10]⟩ : ByteArray)] from rfl) (Reps.one (show Kd.M Kd.string _ _ _ (⟨#[13]⟩ : ByteArray) [.string (⟨#[13]⟩ : ByteArray)] from rfl) (Reps.one (show Kd.M Kd.string _ _ _ (⟨#[103]⟩ : ByteArray) [.string (⟨#[103]⟩ : ByteArray)] from rfl) (Reps.one (show Kd.M Kd.string _ _ _ (⟨#[49, 56, 54, 97, 48, 13, 10]⟩ : ByteArray) [.string (⟨#[49, 56, 54, 97, 48, 13, 10]⟩ : ByteArray)] from rfl) (Reps.none _ _)))))))))))))))))); intro v283 w9 ho10 hb hg_ hnew_; clear hg_ hnew_; (first | rw [← Ny282.out] at ho10 | (simp only [Int.reduceToNat] at ho10; rw [← Ny282.out] at ho10)); have n0_ := Aside0.mk (Kd.R_lower ho10 (below_size (by repeat (first | (with_reducible first | exact HB.out | apply below_alloc | apply pw_below_drewN | apply below_drew1) | exact HB.out)))); have n1_ := Aside0.mk (below_step (by repeat (first | (with_reducible first | exact HB.out | apply below_alloc | apply pw_below_drewN | apply below_drew1) | exact HB.out)) hb); clear HB; have HO284 := n0_; have HB := n1_; clear n0_ n1_; clear hb ho10; obtain ⟨Ao11, co11, eo11⟩ := Kd.R_slice HO284.out; subst eo11) | ((with_reducible refine gate_callee (f := 15) rfl ?_); refine goesL_ (some 12) rfl rfl Tryz.func15 (by kernel_rfl) rfl #[.slice A0 l0.length c0, .slice Ao11 y282.length co11] rfl (by (try simp only [List.map_toArray, List.map_cons, List.map_nil]); first | done | rfl | (simp only [List.length_drop, List.length_take]; rfl)) ?_; (with_reducible refine (broadsheetlaw05_Pieces.calls k _ _ l0 _ _ y282 t285 _ ?side1 ?side2 ?side3 ?side4 A2.out).mono ?_); (case side1 => repeat (first | exact (Kd.C_below HR0.out HB.out) | (with_reducible refine Kd.C_alloc ?_ _) | (with_reducible refine Kd.C_drewN ?_ _) | (with_reducible refine Kd.C_drew ?_))); (case side2 => exact HC0.out); (case side3 => repeat (first | exact (Kd.R_reads' HO284.out).2.2 | (with_reducible refine Kd.C_alloc ?_ _) | (with_reducible refine Kd.C_drewN ?_ _) | (with_reducible refine Kd.C_drew ?_))); (case side4 => exact (Kd.R_reads' HO284.out).2.1); rintro e w' ⟨rfl, ⟨nd, rfl⟩⟩; refine ⟨_, rfl, ?_⟩) | ((with_reducible refine gate_callee (f := 12) rfl ?_); refine goesL_ (some 15) rfl rfl Tryz.func12 (by kernel_rfl) rfl #[.string t285] rfl (by (try simp only [List.map_toArray, List.map_cons, List.map_nil]); first | done | rfl | (simp only [List.length_drop, List.length_take]; rfl)) ?_; (with_reducible refine (chunk_Decode.calls k t285 t286 t287 t288 _ ?side1 A3.out).mono ?_); (case side1 => exact Glob.below hGA.out (by repeat (first | (with_reducible first | exact HB.out | apply below_alloc | apply pw_below_drewN | apply below_drew1) | exact HB.out))); rintro e w12 ⟨rfl, hb⟩; refine ⟨_, rfl, ?_⟩; have n0_ := Aside0.mk (Kd.R_below (by (with_reducible repeat (first | apply Kd.R_alloc | apply Kd.R_drewN | apply Kd.R_drew)); exact HO284.out) hb); have n1_ := Aside0.mk (below_step (by repeat (first | (with_reducible first | exact HB.out | apply below_alloc | apply pw_below_drewN | apply below_drew1) | exact HB.out)) hb); clear HO284; clear HB; have HO284 := n0_; have HB := n1_; clear n0_ n1_; (try clear hb); (try clear hb2); (try clear hk); (try clear hi)) | ((with_reducible refine gate_callee (f := 13) rfl ?_); refine goesL_ (some 21) rfl rfl Tryz.func13 (by kernel_rfl) rfl #[.string t285] rfl (by (try simp only [List.map_toArray, List.map_cons, List.map_nil]); first | done | rfl | (simp only [List.length_drop, List.length_take]; rfl)) ?_; (with_reducible refine (broadsheetref19_Decode.calls k t285 t289 t290 t291 _ A4.out).mono ?_); rintro e w13 ⟨rfl, hb⟩; refine ⟨_, rfl, ?_⟩; have n0_ := Aside0.mk (Kd.R_below (by (with_reducible repeat (first | apply Kd.R_alloc | apply Kd.R_drewN | apply Kd.R_drew)); exact HO284.out) hb); have n1_ := Aside0.mk (below_step (by repeat (first | (with_reducible first | exact HB.out | apply below_alloc | apply pw_below_drewN | apply below_drew1) | exact HB.out)) hb); clear HO284; clear HB; have HO284 := n0_; have HB := n1_; clear n0_ n1_; (try clear hb); (try clear hb2); (try clear hk); (try clear hi)) | ((with_reducible refine gate_callee (f := 14) rfl ?_); refine goesL_ (some 25) rfl rfl Tryz.func14 (by kernel_rfl) rfl #[] rfl (by (try simp only [List.map_toArray, List.map_cons, List.map_nil]); first | done | rfl | (simp only [List.length_drop, List.length_take]; rfl)) ?_; (with_reducible refine (broadsheetlaw19_awake.calls k  true _ ?side1 A5.out).mono ?_); (case side1 => exact Glob.below hGA.out (by repeat (first | (with_reducible first | exact HB.out | apply below_alloc | apply pw_below_drewN | apply below_drew1) | exact HB.out))); rintro e w14 ⟨rfl, hb⟩; refine ⟨_, rfl, ?_⟩; have n0_ := Aside0.mk (Kd.R_below (by (with_reducible repeat (first | apply Kd.R_alloc | apply Kd.R_drewN | apply Kd.R_drew)); exact HO284.out) hb); have n1_ := Aside0.mk (below_step (by repeat (first | (with_reducible first | exact HB.out | apply below_alloc | apply pw_below_drewN | apply below_drew1) | exact HB.out)) hb); clear HO284; clear HB; have HO284 := n0_; have HB := n1_; clear n0_ n1_; (try clear hb); (try clear hb2); (try clear hk); (try clear hi)))
        go_ret
        exact ⟨by first | rfl | (simp [errW_none, errW_some, bne_nil_] <;> rfl) | (simp [*, errW_none, errW_some] <;> rfl), by repeat (first | (with_reducible first | exact HB.out | apply below_alloc | apply pw_below_drewN | apply below_drew1) | exact HB.out)⟩
      · rw [if_neg c8] at H
        have c8b0 : (t287.toList == t290.toList) = false := beq_eq_false_iff_ne.mpr c8
        have c8b1 : (t287.toList != t290.toList) = true := bne_iff_ne.mpr c8
        obtain rfl := Option.some.inj H
        go_enter Tryz.func4, Tryz.ntmps4
        go_wp2_with (first | ((with_reducible refine gate_dst (N := 11) rfl ?_); refine Kd.R_lit Kd.string _ 9 ?hg (N := 11) ?hd (xs := ([(⟨#[51, 13, 10, 97, 98, 99, 13, 10]⟩ : ByteArray), (⟨#[48, 13, 10]⟩ : ByteArray), (⟨#[13, 10]⟩ : ByteArray), (⟨#[49]⟩ : ByteArray), (⟨#[59, 97, 61, 98]⟩ : ByteArray), (⟨#[120]⟩ : ByteArray), (⟨#[88, 58, 32, 121, 13, 10]⟩ : ByteArray), (⟨#[65, 13, 10, 48, 49, 50, 51, 52, 53, 54, 55, 56, 57, 13, 10]⟩ : ByteArray), (⟨#[48, 48]⟩ : ByteArray), (⟨#[32]⟩ : ByteArray), (⟨#[102, 102, 102, 102, 102, 102, 102]⟩ : ByteArray), (⟨#[50, 59, 99, 61, 34, 100, 34, 13, 10, 101, 102, 13, 10]⟩ : ByteArray), (⟨#[48, 13, 10, 13, 10]⟩ : ByteArray), (⟨#[13]⟩ : ByteArray), (⟨#[103]⟩ : ByteArray), (⟨#[49, 56, 54, 97, 48, 13, 10]⟩ : ByteArray)] : List ByteArray)) (inner := [.string (⟨#[51, 13, 10, 97, 98, 99, 13, 10]⟩ : ByteArray), .string (⟨#[48, 13, 10]⟩ : ByteArray), .string (⟨#[13, 10]⟩ : ByteArray), .string (⟨#[49]⟩ : ByteArray), .string (⟨#[59, 97, 61, 98]⟩ : ByteArray), .string (⟨#[120]⟩ : ByteArray), .string (⟨#[88, 58, 32, 121, 13, 10]⟩ : ByteArray), .string (⟨#[65, 13, 10, 48, 49, 50, 51, 52, 53, 54, 55, 56, 57, 13, 10]⟩ : ByteArray), .string (⟨#[48, 48]⟩ : ByteArray), .string (⟨#[32]⟩ : ByteArray), .string (⟨#[102, 102, 102, 102, 102, 102, 102]⟩ : ByteArray), .string (⟨#[50, 59, 99, 61, 34, 100, 34, 13, 10, 101, 102, 13, 10]⟩ : ByteArray), .string (⟨#[48, 13, 10, 13, 10]⟩ : ByteArray), .string (⟨#[13]⟩ : ByteArray), .string (⟨#[103]⟩ : ByteArray), .string (⟨#[49, 56, 54, 97, 48, 13, 10]⟩ : ByteArray)]) (ok := fun _ => True) (okp := fun _ => True) ?hr ?hp (fun _ hk => hk) trivial (Below.refl _ _) (Nat.le_refl _) (by simp) ?_; (case hd => rfl); (case hg => rfl); (case hr => first | (go_simp; done) | (go_simp; rfl)); (case hp => exact (Reps.one (show Kd.M Kd.string _ _ _ (⟨#[51, 13, 10, 97, 98, 99, 13, 10]⟩ : ByteArray) [.string (⟨#[51, 13, 10, 97, 98, 99, 13, 10]⟩ : ByteArray)] from rfl) (Reps.one (show Kd.M Kd.string _ _ _ (⟨#[48, 13, 10]⟩ : ByteArray) [.string (⟨#[48, 13, 10]⟩ : ByteArray)] from rfl) (Reps.one (show Kd.M Kd.string _ _ _ (⟨#[13, 10]⟩ : ByteArray) [.string (⟨#[13, 10]⟩ : ByteArray)] from rfl) (Reps.one (show Kd.M Kd.string _ _ _ (⟨#[49]⟩ : ByteArray) [.string (⟨#[49]⟩ : ByteArray)] from rfl) (Reps.one (show Kd.M Kd.string _ _ _ (⟨#[59, 97, 61, 98]⟩ : ByteArray) [.string (⟨#[59, 97, 61, 98]⟩ : ByteArray)] from rfl) (Reps.one (show Kd.M Kd.string _ _ _ (⟨#[120]⟩ : ByteArray) [.string (⟨#[120]⟩ : ByteArray)] from rfl) (Reps.one (show Kd.M Kd.string _ _ _ (⟨#[88, 58, 32, 121, 13, 10]⟩ : ByteArray) [.string (⟨#[88, 58, 32, 121, 13, 10]⟩ : ByteArray)] from rfl) (Reps.one (show Kd.M Kd.string _ _ _ (⟨#[65, 13, 10, 48, 49, 50, 51, 52, 53, 54, 55, 56, 57, 13, 10]⟩ : ByteArray) [.string (⟨#[65, 13, 10, 48, 49, 50, 51, 52, 53, 54, 55, 56, 57, 13, 10]⟩ : ByteArray)] from rfl) (Reps.one (show Kd.M Kd.string _ _ _ (⟨#[48, 48]⟩ : ByteArray) [.string (⟨#[48, 48]⟩ : ByteArray)] from rfl) (Reps.one (show Kd.M Kd.string _ _ _ (⟨#[32]⟩ : ByteArray) [.string (⟨#[32]⟩ : ByteArray)] from rfl) (Reps.one (show Kd.M Kd.string _ _ _ (⟨#[102, 102, 102, 102, 102, 102, 102]⟩ : ByteArray) [.string (⟨#[102, 102, 102, 102, 102, 102, 102]⟩ : ByteArray)] from rfl) (Reps.one (show Kd.M Kd.string _ _ _ (⟨#[50, 59, 99, 61, 34, 100, 34, 13, 10, 101, 102, 13, 10]⟩ : ByteArray) [.string (⟨#[50, 59, 99, 61, 34, 100, 34, 13, 10, 101, 102, 13, 10]⟩ : ByteArray)] from rfl) (Reps.one (show Kd.M Kd.string _ _ _ (⟨#[48, 13, 10, 13, 10]⟩ : ByteArray) [.string (⟨#[48, 13, 10, 13, 10]⟩ : ByteArray)] from rfl) (Reps.one (show Kd.M Kd.string _ _ _ (⟨#[13]⟩ : ByteArray) [.string (⟨#[13]⟩ : ByteArray)] from rfl) (Reps.one (show Kd.M Kd.string _ _ _ (⟨#[103]⟩ : ByteArray) [.string (⟨#[103]⟩ : ByteArray)] from rfl) (Reps.one (show Kd.M Kd.string _ _ _ (⟨#[49, 56, 54, 97, 48, 13, 10]⟩ : ByteArray) [.string (⟨#[49, 56, 54, 97, 48, 13, 10]⟩ : ByteArray)] from rfl) (Reps.none _ _)))))))))))))))))); intro v283 w15 ho16 hb hg_ hnew_; clear hg_ hnew_; (first | rw [← Ny282.out] at ho16 | (simp only [Int.reduceToNat] at ho16; rw [← Ny282.out] at ho16)); have n0_ := Aside0.mk (Kd.R_lower ho16 (below_size (by repeat (first | (with_reducible first | exact HB.out | apply below_alloc | apply pw_below_drewN | apply below_drew1) | exact HB.out)))); have n1_ := Aside0.mk (below_step (by repeat (first | (with_reducible first | exact HB.out | apply below_alloc | apply pw_below_drewN | apply below_drew1) | exact HB.out)) hb); clear HB; have HO284 := n0_; have HB := n1_; clear n0_ n1_; clear hb ho16; obtain ⟨Ao17, co17, eo17⟩ := Kd.R_slice HO284.out; subst eo17) | ((with_reducible refine gate_callee (f := 15) rfl ?_); refine goesL_ (some 12) rfl rfl Tryz.func15 (by kernel_rfl) rfl #[.slice A0 l0.length c0, .slice Ao17 y282.length co17] rfl (by (try simp only [List.map_toArray, List.map_cons, List.map_nil]); first | done | rfl | (simp only [List.length_drop, List.length_take]; rfl)) ?_; (with_reducible refine (broadsheetlaw05_Pieces.calls k _ _ l0 _ _ y282 t285 _ ?side1 ?side2 ?side3 ?side4 A2.out).mono ?_); (case side1 => repeat (first | exact (Kd.C_below HR0.out HB.out) | (with_reducible refine Kd.C_alloc ?_ _) | (with_reducible refine Kd.C_drewN ?_ _) | (with_reducible refine Kd.C_drew ?_))); (case side2 => exact HC0.out); (case side3 => repeat (first | exact (Kd.R_reads' HO284.out).2.2 | (with_reducible refine Kd.C_alloc ?_ _) | (with_reducible refine Kd.C_drewN ?_ _) | (with_reducible refine Kd.C_drew ?_))); (case side4 => exact (Kd.R_reads' HO284.out).2.1); rintro e w' ⟨rfl, ⟨nd, rfl⟩⟩; refine ⟨_, rfl, ?_⟩) | ((with_reducible refine gate_callee (f := 12) rfl ?_); refine goesL_ (some 15) rfl rfl Tryz.func12 (by kernel_rfl) rfl #[.string t285] rfl (by (try simp only [List.map_toArray, List.map_cons, List.map_nil]); first | done | rfl | (simp only [List.length_drop, List.length_take]; rfl)) ?_; (with_reducible refine (chunk_Decode.calls k t285 t286 t287 t288 _ ?side1 A3.out).mono ?_); (case side1 => exact Glob.below hGA.out (by repeat (first | (with_reducible first | exact HB.out | apply below_alloc | apply pw_below_drewN | apply below_drew1) | exact HB.out))); rintro e w18 ⟨rfl, hb⟩; refine ⟨_, rfl, ?_⟩; have n0_ := Aside0.mk (Kd.R_below (by (with_reducible repeat (first | apply Kd.R_alloc | apply Kd.R_drewN | apply Kd.R_drew)); exact HO284.out) hb); have n1_ := Aside0.mk (below_step (by repeat (first | (with_reducible first | exact HB.out | apply below_alloc | apply pw_below_drewN | apply below_drew1) | exact HB.out)) hb); clear HO284; clear HB; have HO284 := n0_; have HB := n1_; clear n0_ n1_; (try clear hb); (try clear hb2); (try clear hk); (try clear hi)) | ((with_reducible refine gate_callee (f := 13) rfl ?_); refine goesL_ (some 21) rfl rfl Tryz.func13 (by kernel_rfl) rfl #[.string t285] rfl (by (try simp only [List.map_toArray, List.map_cons, List.map_nil]); first | done | rfl | (simp only [List.length_drop, List.length_take]; rfl)) ?_; (with_reducible refine (broadsheetref19_Decode.calls k t285 t289 t290 t291 _ A4.out).mono ?_); rintro e w19 ⟨rfl, hb⟩; refine ⟨_, rfl, ?_⟩; have n0_ := Aside0.mk (Kd.R_below (by (with_reducible repeat (first | apply Kd.R_alloc | apply Kd.R_drewN | apply Kd.R_drew)); exact HO284.out) hb); have n1_ := Aside0.mk (below_step (by repeat (first | (with_reducible first | exact HB.out | apply below_alloc | apply pw_below_drewN | apply below_drew1) | exact HB.out)) hb); clear HO284; clear HB; have HO284 := n0_; have HB := n1_; clear n0_ n1_; (try clear hb); (try clear hb2); (try clear hk); (try clear hi)) | ((with_reducible refine gate_callee (f := 14) rfl ?_); refine goesL_ (some 25) rfl rfl Tryz.func14 (by kernel_rfl) rfl #[] rfl (by (try simp only [List.map_toArray, List.map_cons, List.map_nil]); first | done | rfl | (simp only [List.length_drop, List.length_take]; rfl)) ?_; (with_reducible refine (broadsheetlaw19_awake.calls k  true _ ?side1 A5.out).mono ?_); (case side1 => exact Glob.below hGA.out (by repeat (first | (with_reducible first | exact HB.out | apply below_alloc | apply pw_below_drewN | apply below_drew1) | exact HB.out))); rintro e w20 ⟨rfl, hb⟩; refine ⟨_, rfl, ?_⟩; have n0_ := Aside0.mk (Kd.R_below (by (with_reducible repeat (first | apply Kd.R_alloc | apply Kd.R_drewN | apply Kd.R_drew)); exact HO284.out) hb); have n1_ := Aside0.mk (below_step (by repeat (first | (with_reducible first | exact HB.out | apply below_alloc | apply pw_below_drewN | apply below_drew1) | exact HB.out)) hb); clear HO284; clear HB; have HO284 := n0_; have HB := n1_; clear n0_ n1_; (try clear hb); (try clear hb2); (try clear hk); (try clear hi)))
        go_ret
        exact ⟨by first | rfl | (simp [errW_none, errW_some, bne_nil_] <;> rfl) | (simp [*, errW_none, errW_some] <;> rfl), by repeat (first | (with_reducible first | exact HB.out | apply below_alloc | apply pw_below_drewN | apply below_drew1) | exact HB.out)⟩
    · rw [if_neg c7] at H
      have c7b0 : (t286.toList == t289.toList) = false := beq_eq_false_iff_ne.mpr c7
      have c7b1 : (t286.toList != t289.toList) = true := bne_iff_ne.mpr c7
      obtain rfl := Option.some.inj H
      go_enter Tryz.func4, Tryz.ntmps4
      go_wp2_with (first | ((with_reducible refine gate_dst (N := 11) rfl ?_); refine Kd.R_lit Kd.string _ 9 ?hg (N := 11) ?hd (xs := ([(⟨#[51, 13, 10, 97, 98, 99, 13, 10]⟩ : ByteArray), (⟨#[48, 13, 10]⟩ : ByteArray), (⟨#[13, 10]⟩ : ByteArray), (⟨#[49]⟩ : ByteArray), (⟨#[59, 97, 61, 98]⟩ : ByteArray), (⟨#[120]⟩ : ByteArray), (⟨#[88, 58, 32, 121, 13, 10]⟩ : ByteArray), (⟨#[65, 13, 10, 48, 49, 50, 51, 52, 53, 54, 55, 56, 57, 13, 10]⟩ : ByteArray), (⟨#[48, 48]⟩ : ByteArray), (⟨#[32]⟩ : ByteArray), (⟨#[102, 102, 102, 102, 102, 102, 102]⟩ : ByteArray), (⟨#[50, 59, 99, 61, 34, 100, 34, 13, 10, 101, 102, 13, 10]⟩ : ByteArray), (⟨#[48, 13, 10, 13, 10]⟩ : ByteArray), (⟨#[13]⟩ : ByteArray), (⟨#[103]⟩ : ByteArray), (⟨#[49, 56, 54, 97, 48, 13, 10]⟩ : ByteArray)] : List ByteArray)) (inner := [.string (⟨#[51, 13, 10, 97, 98, 99, 13, 10]⟩ : ByteArray), .string (⟨#[48, 13, 10]⟩ : ByteArray), .string (⟨#[13, 10]⟩ : ByteArray), .string (⟨#[49]⟩ : ByteArray), .string (⟨#[59, 97, 61, 98]⟩ : ByteArray), .string (⟨#[120]⟩ : ByteArray), .string (⟨#[88, 58, 32, 121, 13, 10]⟩ : ByteArray), .string (⟨#[65, 13, 10, 48, 49, 50, 51, 52, 53, 54, 55, 56, 57, 13, 10]⟩ : ByteArray), .string (⟨#[48, 48]⟩ : ByteArray), .string (⟨#[32]⟩ : ByteArray), .string (⟨#[102, 102, 102, 102, 102, 102, 102]⟩ : ByteArray), .string (⟨#[50, 59, 99, 61, 34, 100, 34, 13, 10, 101, 102, 13, 10]⟩ : ByteArray), .string (⟨#[48, 13, 10, 13, 10]⟩ : ByteArray), .string (⟨#[13]⟩ : ByteArray), .string (⟨#[103]⟩ : ByteArray), .string (⟨#[49, 56, 54, 97, 48, 13, 10]⟩ : ByteArray)]) (ok := fun _ => True) (okp := fun _ => True) ?hr ?hp (fun _ hk => hk) trivial (Below.refl _ _) (Nat.le_refl _) (by simp) ?_; (case hd => rfl); (case hg => rfl); (case hr => first | (go_simp; done) | (go_simp; rfl)); (case hp => exact (Reps.one (show Kd.M Kd.string _ _ _ (⟨#[51, 13, 10, 97, 98, 99, 13, 10]⟩ : ByteArray) [.string (⟨#[51, 13, 10, 97, 98, 99, 13, 10]⟩ : ByteArray)] from rfl) (Reps.one (show Kd.M Kd.string _ _ _ (⟨#[48, 13, 10]⟩ : ByteArray) [.string (⟨#[48, 13, 10]⟩ : ByteArray)] from rfl) (Reps.one (show Kd.M Kd.string _ _ _ (⟨#[13, 10]⟩ : ByteArray) [.string (⟨#[13, 10]⟩ : ByteArray)] from rfl) (Reps.one (show Kd.M Kd.string _ _ _ (⟨#[49]⟩ : ByteArray) [.string (⟨#[49]⟩ : ByteArray)] from rfl) (Reps.one (show Kd.M Kd.string _ _ _ (⟨#[59, 97, 61, 98]⟩ : ByteArray) [.string (⟨#[59, 97, 61, 98]⟩ : ByteArray)] from rfl) (Reps.one (show Kd.M Kd.string _ _ _ (⟨#[120]⟩ : ByteArray) [.string (⟨#[120]⟩ : ByteArray)] from rfl) (Reps.one (show Kd.M Kd.string _ _ _ (⟨#[88, 58, 32, 121, 13, 10]⟩ : ByteArray) [.string (⟨#[88, 58, 32, 121, 13, 10]⟩ : ByteArray)] from rfl) (Reps.one (show Kd.M Kd.string _ _ _ (⟨#[65, 13, 10, 48, 49, 50, 51, 52, 53, 54, 55, 56, 57, 13, 10]⟩ : ByteArray) [.string (⟨#[65, 13, 10, 48, 49, 50, 51, 52, 53, 54, 55, 56, 57, 13, 10]⟩ : ByteArray)] from rfl) (Reps.one (show Kd.M Kd.string _ _ _ (⟨#[48, 48]⟩ : ByteArray) [.string (⟨#[48, 48]⟩ : ByteArray)] from rfl) (Reps.one (show Kd.M Kd.string _ _ _ (⟨#[32]⟩ : ByteArray) [.string (⟨#[32]⟩ : ByteArray)] from rfl) (Reps.one (show Kd.M Kd.string _ _ _ (⟨#[102, 102, 102, 102, 102, 102, 102]⟩ : ByteArray) [.string (⟨#[102, 102, 102, 102, 102, 102, 102]⟩ : ByteArray)] from rfl) (Reps.one (show Kd.M Kd.string _ _ _ (⟨#[50, 59, 99, 61, 34, 100, 34, 13, 10, 101, 102, 13, 10]⟩ : ByteArray) [.string (⟨#[50, 59, 99, 61, 34, 100, 34, 13, 10, 101, 102, 13, 10]⟩ : ByteArray)] from rfl) (Reps.one (show Kd.M Kd.string _ _ _ (⟨#[48, 13, 10, 13, 10]⟩ : ByteArray) [.string (⟨#[48, 13, 10, 13, 10]⟩ : ByteArray)] from rfl) (Reps.one (show Kd.M Kd.string _ _ _ (⟨#[13]⟩ : ByteArray) [.string (⟨#[13]⟩ : ByteArray)] from rfl) (Reps.one (show Kd.M Kd.string _ _ _ (⟨#[103]⟩ : ByteArray) [.string (⟨#[103]⟩ : ByteArray)] from rfl) (Reps.one (show Kd.M Kd.string _ _ _ (⟨#[49, 56, 54, 97, 48, 13, 10]⟩ : ByteArray) [.string (⟨#[49, 56, 54, 97, 48, 13, 10]⟩ : ByteArray)] from rfl) (Reps.none _ _)))))))))))))))))); intro v283 w21 ho22 hb hg_ hnew_; clear hg_ hnew_; (first | rw [← Ny282.out] at ho22 | (simp only [Int.reduceToNat] at ho22; rw [← Ny282.out] at ho22)); have n0_ := Aside0.mk (Kd.R_lower ho22 (below_size (by repeat (first | (with_reducible first | exact HB.out | apply below_alloc | apply pw_below_drewN | apply below_drew1) | exact HB.out)))); have n1_ := Aside0.mk (below_step (by repeat (first | (with_reducible first | exact HB.out | apply below_alloc | apply pw_below_drewN | apply below_drew1) | exact HB.out)) hb); clear HB; have HO284 := n0_; have HB := n1_; clear n0_ n1_; clear hb ho22; obtain ⟨Ao23, co23, eo23⟩ := Kd.R_slice HO284.out; subst eo23) | ((with_reducible refine gate_callee (f := 15) rfl ?_); refine goesL_ (some 12) rfl rfl Tryz.func15 (by kernel_rfl) rfl #[.slice A0 l0.length c0, .slice Ao23 y282.length co23] rfl (by (try simp only [List.map_toArray, List.map_cons, List.map_nil]); first | done | rfl | (simp only [List.length_drop, List.length_take]; rfl)) ?_; (with_reducible refine (broadsheetlaw05_Pieces.calls k _ _ l0 _ _ y282 t285 _ ?side1 ?side2 ?side3 ?side4 A2.out).mono ?_); (case side1 => repeat (first | exact (Kd.C_below HR0.out HB.out) | (with_reducible refine Kd.C_alloc ?_ _) | (with_reducible refine Kd.C_drewN ?_ _) | (with_reducible refine Kd.C_drew ?_))); (case side2 => exact HC0.out); (case side3 => repeat (first | exact (Kd.R_reads' HO284.out).2.2 | (with_reducible refine Kd.C_alloc ?_ _) | (with_reducible refine Kd.C_drewN ?_ _) | (with_reducible refine Kd.C_drew ?_))); (case side4 => exact (Kd.R_reads' HO284.out).2.1); rintro e w' ⟨rfl, ⟨nd, rfl⟩⟩; refine ⟨_, rfl, ?_⟩) | ((with_reducible refine gate_callee (f := 12) rfl ?_); refine goesL_ (some 15) rfl rfl Tryz.func12 (by kernel_rfl) rfl #[.string t285] rfl (by (try simp only [List.map_toArray, List.map_cons, List.map_nil]); first | done | rfl | (simp only [List.length_drop, List.length_take]; rfl)) ?_; (with_reducible refine (chunk_Decode.calls k t285 t286 t287 t288 _ ?side1 A3.out).mono ?_); (case side1 => exact Glob.below hGA.out (by repeat (first | (with_reducible first | exact HB.out | apply below_alloc | apply pw_below_drewN | apply below_drew1) | exact HB.out))); rintro e w24 ⟨rfl, hb⟩; refine ⟨_, rfl, ?_⟩; have n0_ := Aside0.mk (Kd.R_below (by (with_reducible repeat (first | apply Kd.R_alloc | apply Kd.R_drewN | apply Kd.R_drew)); exact HO284.out) hb); have n1_ := Aside0.mk (below_step (by repeat (first | (with_reducible first | exact HB.out | apply below_alloc | apply pw_below_drewN | apply below_drew1) | exact HB.out)) hb); clear HO284; clear HB; have HO284 := n0_; have HB := n1_; clear n0_ n1_; (try clear hb); (try clear hb2); (try clear hk); (try clear hi)) | ((with_reducible refine gate_callee (f := 13) rfl ?_); refine goesL_ (some 21) rfl rfl Tryz.func13 (by kernel_rfl) rfl #[.string t285] rfl (by (try simp only [List.map_toArray, List.map_cons, List.map_nil]); first | done | rfl | (simp only [List.length_drop, List.length_take]; rfl)) ?_; (with_reducible refine (broadsheetref19_Decode.calls k t285 t289 t290 t291 _ A4.out).mono ?_); rintro e w25 ⟨rfl, hb⟩; refine ⟨_, rfl, ?_⟩; have n0_ := Aside0.mk (Kd.R_below (by (with_reducible repeat (first | apply Kd.R_alloc | apply Kd.R_drewN | apply Kd.R_drew)); exact HO284.out) hb); have n1_ := Aside0.mk (below_step (by repeat (first | (with_reducible first | exact HB.out | apply below_alloc | apply pw_below_drewN | apply below_drew1) | exact HB.out)) hb); clear HO284; clear HB; have HO284 := n0_; have HB := n1_; clear n0_ n1_; (try clear hb); (try clear hb2); (try clear hk); (try clear hi)) | ((with_reducible refine gate_callee (f := 14) rfl ?_); refine goesL_ (some 25) rfl rfl Tryz.func14 (by kernel_rfl) rfl #[] rfl (by (try simp only [List.map_toArray, List.map_cons, List.map_nil]); first | done | rfl | (simp only [List.length_drop, List.length_take]; rfl)) ?_; (with_reducible refine (broadsheetlaw19_awake.calls k  true _ ?side1 A5.out).mono ?_); (case side1 => exact Glob.below hGA.out (by repeat (first | (with_reducible first | exact HB.out | apply below_alloc | apply pw_below_drewN | apply below_drew1) | exact HB.out))); rintro e w26 ⟨rfl, hb⟩; refine ⟨_, rfl, ?_⟩; have n0_ := Aside0.mk (Kd.R_below (by (with_reducible repeat (first | apply Kd.R_alloc | apply Kd.R_drewN | apply Kd.R_drew)); exact HO284.out) hb); have n1_ := Aside0.mk (below_step (by repeat (first | (with_reducible first | exact HB.out | apply below_alloc | apply pw_below_drewN | apply below_drew1) | exact HB.out)) hb); clear HO284; clear HB; have HO284 := n0_; have HB := n1_; clear n0_ n1_; (try clear hb); (try clear hb2); (try clear hk); (try clear hi)))
      go_ret
      exact ⟨by first | rfl | (simp [errW_none, errW_some, bne_nil_] <;> rfl) | (simp [*, errW_none, errW_some] <;> rfl), by repeat (first | (with_reducible first | exact HB.out | apply below_alloc | apply pw_below_drewN | apply below_drew1) | exact HB.out)⟩
  · replace c6 := Bool.eq_false_iff.mpr c6
    subst c6
    have H1 : (some false) = some r := by rw [if_neg (show ¬ (false = true) by decide)] at H; exact H
    clear H
    have H := H1
    clear H1
    obtain rfl := Option.some.inj H
    go_enter Tryz.func4, Tryz.ntmps4
    go_wp2_with (first | ((with_reducible refine gate_dst (N := 11) rfl ?_); refine Kd.R_lit Kd.string _ 9 ?hg (N := 11) ?hd (xs := ([(⟨#[51, 13, 10, 97, 98, 99, 13, 10]⟩ : ByteArray), (⟨#[48, 13, 10]⟩ : ByteArray), (⟨#[13, 10]⟩ : ByteArray), (⟨#[49]⟩ : ByteArray), (⟨#[59, 97, 61, 98]⟩ : ByteArray), (⟨#[120]⟩ : ByteArray), (⟨#[88, 58, 32, 121, 13, 10]⟩ : ByteArray), (⟨#[65, 13, 10, 48, 49, 50, 51, 52, 53, 54, 55, 56, 57, 13, 10]⟩ : ByteArray), (⟨#[48, 48]⟩ : ByteArray), (⟨#[32]⟩ : ByteArray), (⟨#[102, 102, 102, 102, 102, 102, 102]⟩ : ByteArray), (⟨#[50, 59, 99, 61, 34, 100, 34, 13, 10, 101, 102, 13, 10]⟩ : ByteArray), (⟨#[48, 13, 10, 13, 10]⟩ : ByteArray), (⟨#[13]⟩ : ByteArray), (⟨#[103]⟩ : ByteArray), (⟨#[49, 56, 54, 97, 48, 13, 10]⟩ : ByteArray)] : List ByteArray)) (inner := [.string (⟨#[51, 13, 10, 97, 98, 99, 13, 10]⟩ : ByteArray), .string (⟨#[48, 13, 10]⟩ : ByteArray), .string (⟨#[13, 10]⟩ : ByteArray), .string (⟨#[49]⟩ : ByteArray), .string (⟨#[59, 97, 61, 98]⟩ : ByteArray), .string (⟨#[120]⟩ : ByteArray), .string (⟨#[88, 58, 32, 121, 13, 10]⟩ : ByteArray), .string (⟨#[65, 13, 10, 48, 49, 50, 51, 52, 53, 54, 55, 56, 57, 13, 10]⟩ : ByteArray), .string (⟨#[48, 48]⟩ : ByteArray), .string (⟨#[32]⟩ : ByteArray), .string (⟨#[102, 102, 102, 102, 102, 102, 102]⟩ : ByteArray), .string (⟨#[50, 59, 99, 61, 34, 100, 34, 13, 10, 101, 102, 13, 10]⟩ : ByteArray), .string (⟨#[48, 13, 10, 13, 10]⟩ : ByteArray), .string (⟨#[13]⟩ : ByteArray), .string (⟨#[103]⟩ : ByteArray), .string (⟨#[49, 56, 54, 97, 48, 13, 10]⟩ : ByteArray)]) (ok := fun _ => True) (okp := fun _ => True) ?hr ?hp (fun _ hk => hk) trivial (Below.refl _ _) (Nat.le_refl _) (by simp) ?_; (case hd => rfl); (case hg => rfl); (case hr => first | (go_simp; done) | (go_simp; rfl)); (case hp => exact (Reps.one (show Kd.M Kd.string _ _ _ (⟨#[51, 13, 10, 97, 98, 99, 13, 10]⟩ : ByteArray) [.string (⟨#[51, 13, 10, 97, 98, 99, 13, 10]⟩ : ByteArray)] from rfl) (Reps.one (show Kd.M Kd.string _ _ _ (⟨#[48, 13, 10]⟩ : ByteArray) [.string (⟨#[48, 13, 10]⟩ : ByteArray)] from rfl) (Reps.one (show Kd.M Kd.string _ _ _ (⟨#[13, 10]⟩ : ByteArray) [.string (⟨#[13, 10]⟩ : ByteArray)] from rfl) (Reps.one (show Kd.M Kd.string _ _ _ (⟨#[49]⟩ : ByteArray) [.string (⟨#[49]⟩ : ByteArray)] from rfl) (Reps.one (show Kd.M Kd.string _ _ _ (⟨#[59, 97, 61, 98]⟩ : ByteArray) [.string (⟨#[59, 97, 61, 98]⟩ : ByteArray)] from rfl) (Reps.one (show Kd.M Kd.string _ _ _ (⟨#[120]⟩ : ByteArray) [.string (⟨#[120]⟩ : ByteArray)] from rfl) (Reps.one (show Kd.M Kd.string _ _ _ (⟨#[88, 58, 32, 121, 13, 10]⟩ : ByteArray) [.string (⟨#[88, 58, 32, 121, 13, 10]⟩ : ByteArray)] from rfl) (Reps.one (show Kd.M Kd.string _ _ _ (⟨#[65, 13, 10, 48, 49, 50, 51, 52, 53, 54, 55, 56, 57, 13, 10]⟩ : ByteArray) [.string (⟨#[65, 13, 10, 48, 49, 50, 51, 52, 53, 54, 55, 56, 57, 13, 10]⟩ : ByteArray)] from rfl) (Reps.one (show Kd.M Kd.string _ _ _ (⟨#[48, 48]⟩ : ByteArray) [.string (⟨#[48, 48]⟩ : ByteArray)] from rfl) (Reps.one (show Kd.M Kd.string _ _ _ (⟨#[32]⟩ : ByteArray) [.string (⟨#[32]⟩ : ByteArray)] from rfl) (Reps.one (show Kd.M Kd.string _ _ _ (⟨#[102, 102, 102, 102, 102, 102, 102]⟩ : ByteArray) [.string (⟨#[102, 102, 102, 102, 102, 102, 102]⟩ : ByteArray)] from rfl) (Reps.one (show Kd.M Kd.string _ _ _ (⟨#[50, 59, 99, 61, 34, 100, 34, 13, 10, 101, 102, 13, 10]⟩ : ByteArray) [.string (⟨#[50, 59, 99, 61, 34, 100, 34, 13, 10, 101, 102, 13, 10]⟩ : ByteArray)] from rfl) (Reps.one (show Kd.M Kd.string _ _ _ (⟨#[48, 13, 10, 13, 10]⟩ : ByteArray) [.string (⟨#[48, 13, 10, 13, 10]⟩ : ByteArray)] from rfl) (Reps.one (show Kd.M Kd.string _ _ _ (⟨#[13]⟩ : ByteArray) [.string (⟨#[13]⟩ : ByteArray)] from rfl) (Reps.one (show Kd.M Kd.string _ _ _ (⟨#[103]⟩ : ByteArray) [.string (⟨#[103]⟩ : ByteArray)] from rfl) (Reps.one (show Kd.M Kd.string _ _ _ (⟨#[49, 56, 54, 97, 48, 13, 10]⟩ : ByteArray) [.string (⟨#[49, 56, 54, 97, 48, 13, 10]⟩ : ByteArray)] from rfl) (Reps.none _ _)))))))))))))))))); intro v283 w27 ho28 hb hg_ hnew_; clear hg_ hnew_; (first | rw [← Ny282.out] at ho28 | (simp only [Int.reduceToNat] at ho28; rw [← Ny282.out] at ho28)); have n0_ := Aside0.mk (Kd.R_lower ho28 (below_size (by repeat (first | (with_reducible first | exact HB.out | apply below_alloc | apply pw_below_drewN | apply below_drew1) | exact HB.out)))); have n1_ := Aside0.mk (below_step (by repeat (first | (with_reducible first | exact HB.out | apply below_alloc | apply pw_below_drewN | apply below_drew1) | exact HB.out)) hb); clear HB; have HO284 := n0_; have HB := n1_; clear n0_ n1_; clear hb ho28; obtain ⟨Ao29, co29, eo29⟩ := Kd.R_slice HO284.out; subst eo29) | ((with_reducible refine gate_callee (f := 15) rfl ?_); refine goesL_ (some 12) rfl rfl Tryz.func15 (by kernel_rfl) rfl #[.slice A0 l0.length c0, .slice Ao29 y282.length co29] rfl (by (try simp only [List.map_toArray, List.map_cons, List.map_nil]); first | done | rfl | (simp only [List.length_drop, List.length_take]; rfl)) ?_; (with_reducible refine (broadsheetlaw05_Pieces.calls k _ _ l0 _ _ y282 t285 _ ?side1 ?side2 ?side3 ?side4 A2.out).mono ?_); (case side1 => repeat (first | exact (Kd.C_below HR0.out HB.out) | (with_reducible refine Kd.C_alloc ?_ _) | (with_reducible refine Kd.C_drewN ?_ _) | (with_reducible refine Kd.C_drew ?_))); (case side2 => exact HC0.out); (case side3 => repeat (first | exact (Kd.R_reads' HO284.out).2.2 | (with_reducible refine Kd.C_alloc ?_ _) | (with_reducible refine Kd.C_drewN ?_ _) | (with_reducible refine Kd.C_drew ?_))); (case side4 => exact (Kd.R_reads' HO284.out).2.1); rintro e w' ⟨rfl, ⟨nd, rfl⟩⟩; refine ⟨_, rfl, ?_⟩) | ((with_reducible refine gate_callee (f := 12) rfl ?_); refine goesL_ (some 15) rfl rfl Tryz.func12 (by kernel_rfl) rfl #[.string t285] rfl (by (try simp only [List.map_toArray, List.map_cons, List.map_nil]); first | done | rfl | (simp only [List.length_drop, List.length_take]; rfl)) ?_; (with_reducible refine (chunk_Decode.calls k t285 t286 t287 t288 _ ?side1 A3.out).mono ?_); (case side1 => exact Glob.below hGA.out (by repeat (first | (with_reducible first | exact HB.out | apply below_alloc | apply pw_below_drewN | apply below_drew1) | exact HB.out))); rintro e w30 ⟨rfl, hb⟩; refine ⟨_, rfl, ?_⟩; have n0_ := Aside0.mk (Kd.R_below (by (with_reducible repeat (first | apply Kd.R_alloc | apply Kd.R_drewN | apply Kd.R_drew)); exact HO284.out) hb); have n1_ := Aside0.mk (below_step (by repeat (first | (with_reducible first | exact HB.out | apply below_alloc | apply pw_below_drewN | apply below_drew1) | exact HB.out)) hb); clear HO284; clear HB; have HO284 := n0_; have HB := n1_; clear n0_ n1_; (try clear hb); (try clear hb2); (try clear hk); (try clear hi)) | ((with_reducible refine gate_callee (f := 13) rfl ?_); refine goesL_ (some 21) rfl rfl Tryz.func13 (by kernel_rfl) rfl #[.string t285] rfl (by (try simp only [List.map_toArray, List.map_cons, List.map_nil]); first | done | rfl | (simp only [List.length_drop, List.length_take]; rfl)) ?_; (with_reducible refine (broadsheetref19_Decode.calls k t285 t289 t290 t291 _ A4.out).mono ?_); rintro e w31 ⟨rfl, hb⟩; refine ⟨_, rfl, ?_⟩; have n0_ := Aside0.mk (Kd.R_below (by (with_reducible repeat (first | apply Kd.R_alloc | apply Kd.R_drewN | apply Kd.R_drew)); exact HO284.out) hb); have n1_ := Aside0.mk (below_step (by repeat (first | (with_reducible first | exact HB.out | apply below_alloc | apply pw_below_drewN | apply below_drew1) | exact HB.out)) hb); clear HO284; clear HB; have HO284 := n0_; have HB := n1_; clear n0_ n1_; (try clear hb); (try clear hb2); (try clear hk); (try clear hi)) | ((with_reducible refine gate_callee (f := 14) rfl ?_); refine goesL_ (some 25) rfl rfl Tryz.func14 (by kernel_rfl) rfl #[] rfl (by (try simp only [List.map_toArray, List.map_cons, List.map_nil]); first | done | rfl | (simp only [List.length_drop, List.length_take]; rfl)) ?_; (with_reducible refine (broadsheetlaw19_awake.calls k  false _ ?side1 A5.out).mono ?_); (case side1 => exact Glob.below hGA.out (by repeat (first | (with_reducible first | exact HB.out | apply below_alloc | apply pw_below_drewN | apply below_drew1) | exact HB.out))); rintro e w32 ⟨rfl, hb⟩; refine ⟨_, rfl, ?_⟩; have n0_ := Aside0.mk (Kd.R_below (by (with_reducible repeat (first | apply Kd.R_alloc | apply Kd.R_drewN | apply Kd.R_drew)); exact HO284.out) hb); have n1_ := Aside0.mk (below_step (by repeat (first | (with_reducible first | exact HB.out | apply below_alloc | apply pw_below_drewN | apply below_drew1) | exact HB.out)) hb); clear HO284; clear HB; have HO284 := n0_; have HB := n1_; clear n0_ n1_; (try clear hb); (try clear hb2); (try clear hk); (try clear hi)))
    go_ret
    exact ⟨by first | rfl | (simp [errW_none, errW_some, bne_nil_] <;> rfl) | (simp [*, errW_none, errW_some] <;> rfl), by repeat (first | (with_reducible first | exact HB.out | apply below_alloc | apply pw_below_drewN | apply below_drew1) | exact HB.out)⟩

/-- THE ONE PURE STATEMENT of broadsheetlaw19_ChunkSmall: yours. -/
def broadsheetlaw19_ChunkSmall.Pure : Prop := ∀ (l0 : List Int), l0.length ≤ maxLen → l0.length * 1 ≤ 140737488351232 → (∀ x ∈ l0, (Lit.int .u8 x).wf = true) → ∃ k, broadsheetlaw19_ChunkSmall.f k l0 = some true
theorem broadsheetlaw19_ChunkSmall.walk (P : broadsheetlaw19_ChunkSmall.Pure) (a0 : Option Addr) (len0 cap0 : Nat) (z0 : List Int) (w : World) (hG : Glob w) (w0 : (a0 = none ∧ len0 = 0 ∧ cap0 = 0 ∧ z0 = []) ∨ ∃ x, a0 = some x ∧ len0 ≤ cap0 ∧ cap0 ≤ maxLen ∧ z0.length = cap0 ∧ (∀ i, i < z0.length → w.cell? (x.add i) = some (.int .u8 (z0.getD i 0))) ∧ ∀ n ∈ z0, (Lit.int .u8 n).wf = true) (y0 : len0 * 1 ≤ 140737488351232) :
    Calls Tryz.prog 4 #[.slice a0 len0 cap0] w fun e w' => e = .returned (.bool true) ∧ Below w.heap.size w w' := by
  obtain ⟨l0, rfl, hr0, hm0, hw0, hc0⟩ := ReadsInt.ofRowC w0
  obtain ⟨k, h⟩ := P l0 hm0 y0 hw0
  refine (broadsheetlaw19_ChunkSmall.calls k _ _ l0 true w (Kd.C_of_reads (d := (0 : Int)) (h1 := fun _ => rfl) hr0) hc0 hG h).mono ?_
  rintro e w' ⟨rfl, hd⟩
  exact ⟨rfl, hd⟩

end Go.Proofs.YteonhdfjfjpbjaaGreatDoor.P

/- SpPieces -/
namespace Go.Proofs.YteonhdfjfjpbjaaGreatDoor.Sp
open Go Go.RowKit Go.Proofs.YteonhdfjfjpbjaaGreatDoorW.PrintWords Go.Proofs.YteonhdfjfjpbjaaGreatDoorW.PrintLast Go.Proofs.YteonhdfjfjpbjaaGreatDoor.O Go.Proofs.YteonhdfjfjpbjaaGreatDoor.P
set_option linter.unusedVariables false
theorem pieces_l0 (l : List Int) (hl : ∀ x ∈ l, 0 ≤ x ∧ x < 256) (pcs : List ByteArray) (hp : pcs ≠ []) (hn : pcs.length ≤ 1000) (hb : ∀ p ∈ pcs, p.size ≤ 1000) : ∀ (d k i : Nat) (acc : ByteArray), i + d = 12 → d < k → acc.size ≤ 1000 * i →
    ∃ t, broadsheetlaw05_Pieces.l0 k l pcs acc i = some t ∧ t.size ≤ 12000 := by
  intro d
  induction d with
  | zero =>
    intro k i acc hi hk ha
    obtain ⟨k, rfl⟩ : ∃ k', k = k' + 1 := ⟨k - 1, by omega⟩
    rw [broadsheetlaw05_Pieces.l0]
    by_cases h : (i : Int) < (l.length : Int)
    · rw [if_pos h, if_neg (by omega)]
      exact ⟨_, rfl, by omega⟩
    · rw [if_neg h]
      exact ⟨_, rfl, by omega⟩
  | succ d ih =>
    intro k i acc hi hk ha
    obtain ⟨k, rfl⟩ : ∃ k', k = k' + 1 := ⟨k - 1, by omega⟩
    rw [broadsheetlaw05_Pieces.l0]
    by_cases h : (i : Int) < (l.length : Int)
    · have hil : i < l.length := by omega
      have hpl : 0 < pcs.length := List.length_pos_iff.2 hp
      have hr : rd l (i : Int) = l[i] := by simp [rd, List.getD_eq_getElem?_getD, List.getElem?_eq_getElem hil]
      have hx := hl l[i] (List.getElem_mem hil)
      obtain ⟨x, hx2⟩ := Int.eq_ofNat_of_zero_le hx.1
      rw [if_pos h, if_pos (by omega), if_pos (by omega), if_neg (by omega), hr, hx2, wrap_id (by omega) (by omega)]
      have hm : Int.tmod (x : Int) ((pcs.length : Nat) : Int) = ((x % pcs.length : Nat) : Int) := by rw [Int.tmod_eq_emod_of_nonneg (by omega)]; rfl
      have hlt : x % pcs.length < pcs.length := Nat.mod_lt _ hpl
      obtain ⟨j, hj⟩ : ∃ j, j = x % pcs.length := ⟨_, rfl⟩
      rw [← hj] at hm hlt
      clear hj hx2 hr hx hl
      have hq : (rdOf ByteArray.empty pcs ((j : Nat) : Int)).size ≤ 1000 := by
        have e : rdOf ByteArray.empty pcs ((j : Nat) : Int) = pcs[j] := by
          unfold rdOf
          rw [Int.toNat_natCast, List.getD_eq_getElem?_getD, List.getElem?_eq_getElem hlt]
          rfl
        rw [e]
        exact hb _ (List.getElem_mem hlt)
      have hw : wrap64 ((i : Int) + 1) = ((i + 1 : Nat) : Int) := by rw [wrap_id (by omega) (by omega)]; omega
      rw [hm, if_pos (by omega), if_pos (by omega), if_pos (by omega), hw]
      exact ih k (i + 1) _ (by omega) (by omega) (by rw [ByteArray.size_append]; omega)
    · rw [if_neg h]
      exact ⟨_, rfl, by omega⟩
theorem piecesF (l : List Int) (hl : ∀ x ∈ l, 0 ≤ x ∧ x < 256) (pcs : List ByteArray) (hp : pcs ≠ []) (hn : pcs.length ≤ 1000) (hb : ∀ p ∈ pcs, p.size ≤ 1000) (k : Nat) (hk : 13 ≤ k) : ∃ t, broadsheetlaw05_Pieces.f k l pcs = some t ∧ t.size ≤ 12000 :=
  pieces_l0 l hl pcs hp hn hb 12 k 0 _ (by omega) (by omega) (Nat.zero_le _)
end Go.Proofs.YteonhdfjfjpbjaaGreatDoor.Sp

/- SpSmall -/
namespace Go.Proofs.YteonhdfjfjpbjaaGreatDoor.Sp
open Go Go.RowKit Go.Proofs.YteonhdfjfjpbjaaGreatDoorW.PrintWords Go.Proofs.YteonhdfjfjpbjaaGreatDoorW.PrintLast Go.Proofs.YteonhdfjfjpbjaaGreatDoor.O Go.Proofs.YteonhdfjfjpbjaaGreatDoor.P
set_option linter.unusedVariables false
theorem small_all (l : List Int) (hl : ∀ x ∈ l, (Lit.int .u8 x).wf = true) : ∃ k, broadsheetlaw19_ChunkSmall.f k l = some true := by
  refine ⟨1000000, ?_⟩
  unfold broadsheetlaw19_ChunkSmall.f
  have key := piecesF l (fun x hx => wf_u8 (hl x hx)) ([(⟨#[51, 13, 10, 97, 98, 99, 13, 10]⟩ : ByteArray), (⟨#[48, 13, 10]⟩ : ByteArray), (⟨#[13, 10]⟩ : ByteArray), (⟨#[49]⟩ : ByteArray), (⟨#[59, 97, 61, 98]⟩ : ByteArray), (⟨#[120]⟩ : ByteArray), (⟨#[88, 58, 32, 121, 13, 10]⟩ : ByteArray), (⟨#[65, 13, 10, 48, 49, 50, 51, 52, 53, 54, 55, 56, 57, 13, 10]⟩ : ByteArray), (⟨#[48, 48]⟩ : ByteArray), (⟨#[32]⟩ : ByteArray), (⟨#[102, 102, 102, 102, 102, 102, 102]⟩ : ByteArray), (⟨#[50, 59, 99, 61, 34, 100, 34, 13, 10, 101, 102, 13, 10]⟩ : ByteArray), (⟨#[48, 13, 10, 13, 10]⟩ : ByteArray), (⟨#[13]⟩ : ByteArray), (⟨#[103]⟩ : ByteArray), (⟨#[49, 56, 54, 97, 48, 13, 10]⟩ : ByteArray)] : List ByteArray) (by simp) (by decide) (by decide) 1000000 (by omega)
  obtain ⟨t, ht, hs⟩ := key
  rw [ht]
  simp only [Option.bind_some]
  rw [← mk_self t]
  have hlen : t.data.toList.length ≤ 12000 := by rw [← Lib.size_eq]; exact hs
  generalize t.data.toList = u at *
  rw [decodeF u _ (by omega) (by omega), rdecodeF u _ (by omega) (by omega), awake19 _ (by omega)]
  simp
end Go.Proofs.YteonhdfjfjpbjaaGreatDoor.Sp

/- CardU -/
namespace Go.Proofs.YteonhdfjfjpbjaaGreatDoor.Cg
open Go.RowKit Go.Proofs.YteonhdfjfjpbjaaGreatDoor.P Go.Proofs.YteonhdfjfjpbjaaGreatDoorW.PrintWords Go.Proofs.YteonhdfjfjpbjaaGreatDoorW.PrintLast Go.Proofs.YteonhdfjfjpbjaaGreatDoor.O
open Go.ChangeShapes Go.WideShapes Go.Deep
set_option linter.unusedVariables false
theorem u8s_of {H : Type} {enc : TypeId × Value → H} {W : World} {v : Value} {d : DataW H} {p : List MemPlace} (h : DataW.Trod enc Tryz.prog W 0 (fun _ => true) true 23 v d p) (hv : ∃ a len cap, v = .slice a len cap) :
    ∃ A c l, v = .slice A l.length c ∧ l.length ≤ c ∧ Kd.C (Kd.int .u8) W A l.length l ∧ ∀ x ∈ l, (Lit.int .u8 x).wf = true := by
  obtain ⟨a, len, cap, rfl⟩ := hv
  obtain ⟨fuel, hf⟩ := h
  rcases open_ints Tryz.underlying23 Tryz.underlying5 (by kernel_rfl) hf with ⟨hcs, _⟩ | ⟨x, l, c, zs, hcs, _, hl, hm, hz, _, hcell, hwz⟩
  · simp [Value.cells] at hcs
    obtain ⟨rfl, rfl, rfl⟩ := hcs
    exact ⟨none, 0, [], rfl, Nat.le_refl _, ⟨rfl, by simp, fun h => absurd h (by simp)⟩, by simp⟩
  · simp [Value.cells] at hcs
    obtain ⟨rfl, rfl, rfl⟩ := hcs
    have hz' : zs.length = cap := by simpa using hz
    have hlen : (zs.take len).length = len := by rw [List.length_take]; omega
    refine ⟨some x, cap, zs.take len, by rw [hlen], by rw [hlen]; exact hl, ⟨rfl, by rw [hlen]; unfold maxLen at hm; omega, fun _ => ⟨x, rfl, fun j q hj => ?_⟩⟩, fun y hy => hwz y (List.mem_of_mem_take hy)⟩
    have hjl := (List.getElem?_eq_some_iff.1 hj).1
    rw [hlen] at hjl
    have hq : zs.getD j 0 = q := by
      rw [List.getElem?_take_of_lt hjl] at hj
      rw [List.getD_eq_getElem?_getD, hj]
      rfl
    refine ⟨[.int .u8 q], rfl, rfl, fun i u hu => ?_⟩
    match i, hu with
    | 0, hu =>
      simp at hu
      subst hu
      have hc := hcell j (by omega)
      rw [hq] at hc
      simpa [Kd.int, Kd.scalar] using hc
end Go.Proofs.YteonhdfjfjpbjaaGreatDoor.Cg
