/- Texts of this seat, joined: lemmas and walks that its statements' proofs use. -/
import Derived.Test.YteonhdfjfjpbjaaGreatDoorK1
import Derived.Test.YteonhdfjfjpbjaaGreatDoorK3
import Derived.Test.YteonhdfjfjpbjaaGreatDoorK2
import Derived.Laws.RangeAny
import Derived.Deep.Slices
import Derived.LaidLaws
import Derived.MakeChecks
import Derived.HandedShaped
import Derived.Lib.LaidU8
import Derived.Lib.LaidTab
import Derived.WalkKit
import Derived.ProofKit
import Derived.Test.YteonhdfjfjpbjaaGreatDoorRows
import Derived.Deep.SlicePairs
/- Px51 -/
namespace Go.Proofs.YteonhdfjfjpbjaaGreatDoor.P
open Go.Proofs.YteonhdfjfjpbjaaGreatDoor.B
open Go.RowKit Go.Proofs.YteonhdfjfjpbjaaGreatDoorW.PrintWords Go.Proofs.YteonhdfjfjpbjaaGreatDoorW.PrintLast Go.Proofs.YteonhdfjfjpbjaaGreatDoorW.PrintMore
attribute [local go_sem] str_leq str_gtr str_geq max2_int min2_int max_two min_two max_three min_three max_four min_four
set_option linter.unusedVariables false
set_option linter.unusedSimpArgs false
def broadsheetref03_digits.l0 : Nat → Int → ByteArray → Option (ByteArray)
  | 0, _, _ => none
  | k + 1, x0, x3 => if x0 > 9 then (if ([] : List Int).length < 140737488355328 then ((some (([] : List Int) ++ [(wrap64 (48 + (Int.tmod x0 10))) % 256] : List Int)).bind fun y395 => (if (strOfNums y395).size + x3.size ≤ 9223372036854775807 then (broadsheetref03_digits.l0 k (wrap64 (Int.tdiv x0 10)) ((strOfNums y395) ++ x3)) else (none))) else (none)) else (if ([] : List Int).length < 140737488355328 then ((some (([] : List Int) ++ [(wrap64 (48 + x0)) % 256] : List Int)).bind fun y398 => (if (strOfNums y398).size + x3.size ≤ 9223372036854775807 then (some ((strOfNums y398) ++ x3)) else (none))) else (none))
def broadsheetref03_digits.f (k : Nat) (a0 : Int) : Option (ByteArray) := broadsheetref03_digits.l0 k a0 (⟨#[]⟩ : ByteArray)
set_option maxHeartbeats 8000000 in
set_option maxRecDepth 100000 in
theorem broadsheetref03_digits.calls (k : Nat) (a0 : Int) (r : ByteArray) (w : World) (h : broadsheetref03_digits.f k a0 = some r) :
  Calls Tryz.prog 54 #[.int .i64 a0] w fun e w' => e = .returned (.string r) ∧ Below w.heap.size w w' := by
 have HB := Aside0.mk (Below.refl w.heap.size w)
 have H : (broadsheetref03_digits.l0 k a0 (⟨#[]⟩ : ByteArray)) = some r := h
 clear h
 have H' := Aside0.mk H
 clear H
 go_enter Tryz.func54, Tryz.ntmps54
 go_wp2
 first | go_loopg [0, 3] k (fun kq v0 v3 w' => ∃ (x0_1 : Int) (x3_1 : ByteArray), v0 = .int .i64 x0_1 ∧ v3 = .string x3_1 ∧ Aside0 (broadsheetref03_digits.l0 kq x0_1 x3_1 = some r) ∧ Aside0 (kq ≤ k) ∧ Aside0 (Below w.heap.size w w')) | (go_simp; go_loopg [0, 3] k (fun kq v0 v3 w' => ∃ (x0_1 : Int) (x3_1 : ByteArray), v0 = .int .i64 x0_1 ∧ v3 = .string x3_1 ∧ Aside0 (broadsheetref03_digits.l0 kq x0_1 x3_1 = some r) ∧ Aside0 (kq ≤ k) ∧ Aside0 (Below w.heap.size w w')))
 case atStart => exact ⟨(a0), ((⟨#[]⟩ : ByteArray)), zb6, zb6, H', ⟨Nat.le_refl _⟩, ⟨by repeat (first | (with_reducible first | exact HB.out | apply below_alloc | apply pw_below_drewN | apply below_drew1) | exact HB.out)⟩⟩
 case round =>
  clear H'
  obtain ⟨x0_1, x3_1, rfl, rfl, HA, HK1, HB⟩ := hrel
  cases gk with
  | zero => exact absurd HA.out (by simp [broadsheetref03_digits.l0])
  | succ k1 =>
   have H := HA.out
   clear HA
   simp only [broadsheetref03_digits.l0] at H
   by_cases c2 : x0_1 > 9
   ·rw [if_pos c2] at H
    have c2b0 : decide (9 < x0_1) = true := decide_eq_true c2
    clear c2
    by_cases c3 : ([] : List Int).length < 140737488355328
    ·rw [if_pos c3] at H
     have LMc3 := Aside0.mk c3
     clear c3
     obtain ⟨y395, hy395⟩ : ∃ y_ : List Int, y_ = (([] : List Int) ++ [(wrap64 (48 + (Int.tmod x0_1 10))) % 256]) := ⟨_, rfl⟩
     replace H : (if (strOfNums y395).size + x3_1.size ≤ 9223372036854775807 then (broadsheetref03_digits.l0 k1 (wrap64 (Int.tdiv x0_1 10)) ((strOfNums y395) ++ x3_1)) else (none)) = some r := by first | (rw [hy395]; with_reducible exact H) | (have H2_ := (Option.bind_some _ _).symm.trans H; rw [hy395]; with_reducible exact H2_) | (have H2_ := (Option.bind_some _ _).symm.trans H; with_reducible exact H2_) | with_reducible exact H | (rw [hy395]; exact H) | exact H
     have Ny395 := Aside0.mk hy395
     clear hy395
     by_cases c4 : (strOfNums y395).size + x3_1.size ≤ 9223372036854775807
     ·rw [if_pos c4] at H
      have c4b0 := eq_true c4
      have c4b1 : decide ((strOfNums y395).size + x3_1.size ≤ 9223372036854775807) = true := decide_eq_true c4
      try have c4b2 : (9223372036854775807 < (strOfNums y395).size + x3_1.size) = False := eq_false (Nat.not_lt.2 c4)
      have H' := Aside0.mk H
      clear H
      go_wp2_with (first | ((with_reducible refine gate_builtin (b := .append) (xs := #[.tmp 8, .tmp 13]) rfl ?_); at_builtin; refine Kd.R_append (Kd.int .u8) (w0 := w) w.heap.size rfl (.tmp 8) (.tmp 13) 23 5 (.int .u8 0) 1 rfl Tryz.underlying23 info5 rfl zb20 zb17 (.slice none 0 0) ([] : List Int) ((wrap64 (48 + (Int.tmod x0_1 10))) % 256) [.int .u8 ((wrap64 (48 + (Int.tmod x0_1 10))) % 256)] (fun _ => True) (fun _ => False) rfl rfl ?aP (fun _ hk => hk.elim) ?aF ?aO ?aB ?aS ?aL ?_; (case aP => exact rfl); (case aB => exact zb0); (case aF => exact (fun _ _ => trivial)); (case aO => exact ((Kd.R_nil _ _ _ _ (fun _ => True)))); (case aS => exact (below_size zb0)); (case aL => have := LMc3.out; omega); intro v396 w5 ho hb hg hat; rw [← Ny395.out] at ho; have n0_ := Aside0.mk (hb); have n1_ := Aside0.mk (ho); clear HB; have HB := n0_; have HO397 := n1_; clear n0_ n1_; clear ho hb hg hat; have hcv6 := own_string (P := Tryz.prog) Tryz.underlying23 Tryz.underlying5 Tryz.underlying9 (Kd.own_of_R HO397.out); have hcvq6 := fun n_ => own_string (P := Tryz.prog) Tryz.underlying23 Tryz.underlying5 Tryz.underlying9 (Kd.own_of_R (Kd.R_drewN HO397.out n_))))
      go_roundg k1
      case measure => have := HK1.out; omega
      case rel => exact ⟨(wrap64 (Int.tdiv x0_1 10)), ((strOfNums y395) ++ x3_1), zb6, zb6, H', ⟨by have := HK1.out; omega⟩, ⟨by repeat (first | (with_reducible first | exact HB.out | apply below_alloc | apply pw_below_drewN | apply below_drew1) | exact HB.out)⟩⟩
     ·rw [if_neg c4] at H
      exact absurd H zb25
    ·rw [if_neg c3] at H
     exact absurd H zb25
   ·rw [if_neg c2] at H
    have c2b0 : decide (9 < x0_1) = false := decide_eq_false c2
    clear c2
    by_cases c7 : ([] : List Int).length < 140737488355328
    ·rw [if_pos c7] at H
     have LMc7 := Aside0.mk c7
     clear c7
     obtain ⟨y398, hy398⟩ : ∃ y_ : List Int, y_ = (([] : List Int) ++ [(wrap64 (48 + x0_1)) % 256]) := ⟨_, rfl⟩
     replace H : (if (strOfNums y398).size + x3_1.size ≤ 9223372036854775807 then (some ((strOfNums y398) ++ x3_1)) else (none)) = some r := by first | (rw [hy398]; with_reducible exact H) | (have H2_ := (Option.bind_some _ _).symm.trans H; rw [hy398]; with_reducible exact H2_) | (have H2_ := (Option.bind_some _ _).symm.trans H; with_reducible exact H2_) | with_reducible exact H | (rw [hy398]; exact H) | exact H
     have Ny398 := Aside0.mk hy398
     clear hy398
     by_cases c8 : (strOfNums y398).size + x3_1.size ≤ 9223372036854775807
     ·rw [if_pos c8] at H
      have c8b0 := eq_true c8
      have c8b1 : decide ((strOfNums y398).size + x3_1.size ≤ 9223372036854775807) = true := decide_eq_true c8
      try have c8b2 : (9223372036854775807 < (strOfNums y398).size + x3_1.size) = False := eq_false (Nat.not_lt.2 c8)
      obtain rfl := Option.some.inj H
      go_wp2_with (first | ((with_reducible refine gate_builtin (b := .append) (xs := #[.tmp 21, .tmp 25]) rfl ?_); at_builtin; refine Kd.R_append (Kd.int .u8) (w0 := w) w.heap.size rfl (.tmp 21) (.tmp 25) 23 5 (.int .u8 0) 1 rfl Tryz.underlying23 info5 rfl zb20 zb17 (.slice none 0 0) ([] : List Int) ((wrap64 (48 + x0_1)) % 256) [.int .u8 ((wrap64 (48 + x0_1)) % 256)] (fun _ => True) (fun _ => False) rfl rfl ?aP (fun _ hk => hk.elim) ?aF ?aO ?aB ?aS ?aL ?_; (case aP => exact rfl); (case aB => exact zb0); (case aF => exact (fun _ _ => trivial)); (case aO => exact ((Kd.R_nil _ _ _ _ (fun _ => True)))); (case aS => exact (below_size zb0)); (case aL => have := LMc7.out; omega); intro v399 w9 ho hb hg hat; rw [← Ny398.out] at ho; have n0_ := Aside0.mk (hb); have n1_ := Aside0.mk (ho); clear HB; have HB := n0_; have HO400 := n1_; clear n0_ n1_; clear ho hb hg hat; have hcv10 := own_string (P := Tryz.prog) Tryz.underlying23 Tryz.underlying5 Tryz.underlying9 (Kd.own_of_R HO400.out); have hcvq10 := fun n_ => own_string (P := Tryz.prog) Tryz.underlying23 Tryz.underlying5 Tryz.underlying9 (Kd.own_of_R (Kd.R_drewN HO400.out n_))))
      go_ret
      exact ⟨zb4, zb0⟩
     ·rw [if_neg c8] at H
      exact absurd H zb25
    ·rw [if_neg c7] at H
     exact absurd H zb25
def broadsheetref03_Digits.f (k : Nat) (a0 : Int) : Option (ByteArray) := if a0 < 0 then ((broadsheetref03_digits.f k (wrap64 (-a0))).bind fun t401 => (if 1 + t401.size ≤ 9223372036854775807 then (some ((⟨#[45]⟩ : ByteArray) ++ t401)) else (none))) else ((broadsheetref03_digits.f k a0).bind fun t402 => (some t402))
set_option maxHeartbeats 8000000 in
set_option maxRecDepth 100000 in
theorem broadsheetref03_Digits.calls (k : Nat) (a0 : Int) (r : ByteArray) (w : World) (h : broadsheetref03_Digits.f k a0 = some r) :
  Calls Tryz.prog 26 #[.int .i64 a0] w fun e w' => e = .returned (.string r) ∧ Below w.heap.size w w' := by
 have HB := Aside0.mk (Below.refl w.heap.size w)
 have H : (if a0 < 0 then ((broadsheetref03_digits.f k (wrap64 (-a0))).bind fun t401 => (if 1 + t401.size ≤ 9223372036854775807 then (some ((⟨#[45]⟩ : ByteArray) ++ t401)) else (none))) else ((broadsheetref03_digits.f k a0).bind fun t402 => (some t402))) = some r := h
 clear h
 by_cases c2 : a0 < 0
 ·rw [if_pos c2] at H
  have c2b0 : decide (a0 < 0) = true := decide_eq_true c2
  clear c2
  replace H := Option.bind_eq_some_iff.mp H
  obtain ⟨t401, A30, H⟩ := H
  replace H : (if 1 + t401.size ≤ 9223372036854775807 then (some ((⟨#[45]⟩ : ByteArray) ++ t401)) else (none)) = some r := H
  have A3 := Aside0.mk A30
  clear A30
  by_cases c4 : 1 + t401.size ≤ 9223372036854775807
  ·rw [if_pos c4] at H
   have c4b0 := eq_true c4
   have c4b1 : decide (1 + t401.size ≤ 9223372036854775807) = true := decide_eq_true c4
   try have c4b2 : (9223372036854775807 < 1 + t401.size) = False := eq_false (Nat.not_lt.2 c4)
   obtain rfl := Option.some.inj H
   go_enter Tryz.func26, Tryz.ntmps26
   go_wp2_with (first | ((with_reducible refine gate_callee (f := 54) rfl ?_); refine goesL_ (some 7) rfl rfl Tryz.func54 zb15 rfl #[.int .i64 (wrap64 (-a0))] rfl zb1 ?_; (with_reducible refine (broadsheetref03_digits.calls k (wrap64 (-a0)) t401 _ A3.out).mono ?_); rintro e w5 ⟨rfl, hb⟩; refine ⟨_, rfl, ?_⟩; have n0_ := Aside0.mk (below_step zb0 hb); clear HB; have HB := n0_; clear n0_; (try clear hb); (try clear hb2); (try clear hk); (try clear hi)))
   go_ret
   exact ⟨zb4, zb0⟩
  ·rw [if_neg c4] at H
   exact absurd H zb25
 ·rw [if_neg c2] at H
  have c2b0 : decide (a0 < 0) = false := decide_eq_false c2
  clear c2
  replace H := Option.bind_eq_some_iff.mp H
  obtain ⟨t402, A60, H⟩ := H
  replace H : (some t402) = some r := H
  have A6 := Aside0.mk A60
  clear A60
  obtain rfl := Option.some.inj H
  go_enter Tryz.func26, Tryz.ntmps26
  go_wp2_with (first | ((with_reducible refine gate_callee (f := 54) rfl ?_); refine goesL_ (some 10) rfl rfl Tryz.func54 zb15 rfl #[.int .i64 a0] rfl zb1 ?_; (with_reducible refine (broadsheetref03_digits.calls k a0 t402 _ A6.out).mono ?_); rintro e w7 ⟨rfl, hb⟩; refine ⟨_, rfl, ?_⟩; have n0_ := Aside0.mk (below_step zb0 hb); clear HB; have HB := n0_; clear n0_; (try clear hb); (try clear hb2); (try clear hk); (try clear hi)))
  go_ret
  exact ⟨zb4, zb0⟩
end Go.Proofs.YteonhdfjfjpbjaaGreatDoor.P
/- Px53 -/
namespace Go.Proofs.YteonhdfjfjpbjaaGreatDoor.P
open Go.Proofs.YteonhdfjfjpbjaaGreatDoor.B
open Go.RowKit Go.Proofs.YteonhdfjfjpbjaaGreatDoorW.PrintWords Go.Proofs.YteonhdfjfjpbjaaGreatDoorW.PrintLast Go.Proofs.YteonhdfjfjpbjaaGreatDoorW.PrintMore
attribute [local go_sem] str_leq str_gtr str_geq max2_int min2_int max_two min_two max_three min_three max_four min_four
set_option linter.unusedVariables false
set_option linter.unusedSimpArgs false
open Go.Proofs.YteonhdfjfjpbjaaGreatDoor.O
mutual
def broadsheetlaw20_RequestBack.j0 : Nat → ByteArray → List (S49) → ByteArray → Int → Bool → ByteArray → Bool → Option (Bool)
  | 0, _, _, _, _, _, _, _ => none
  | k + 1, x0, x1, x2, x3, x9, x10, x51 => if x51 = true then (some x9) else (broadsheetlaw20_RequestBack.l0 k x0 x1 x2 x3 x9 x10 0)
def broadsheetlaw20_RequestBack.l0 : Nat → ByteArray → List (S49) → ByteArray → Int → Bool → ByteArray → Int → Option (Bool)
  | 0, _, _, _, _, _, _, _ => none
  | k + 1, x0, x1, x2, x3, x9, x10, x12 => if x12 < (x0.size : Int) then (if 0 ≤ x12 then (if (bt x0 x12) < 33 then (some x9) else (if (bt x0 x12) > 126 then (some x9) else (if (bt x0 x12) = 35 then (some x9) else (broadsheetlaw20_RequestBack.l0 k x0 x1 x2 x3 x9 x10 (wrap64 (x12 + 1)))))) else (none)) else ((broadsheetref18_Get.f k x1 (⟨#[104, 111, 115, 116]⟩ : ByteArray)).bind fun bt406 => ((broadsheetref18_Get.f k x1 (⟨#[99, 111, 110, 116, 101, 110, 116, 45, 108, 101, 110, 103, 116, 104]⟩ : ByteArray)).bind fun bt408 => ((broadsheetref18_Get.f k x1 (⟨#[116, 114, 97, 110, 115, 102, 101, 114, 45, 101, 110, 99, 111, 100, 105, 110, 103]⟩ : ByteArray)).bind fun bt410 => (if (wrap64 ((wrap64 (bt406.2 + bt408.2)) + bt410.2)) > 0 then (some x9) else (if 6 + x0.size ≤ 9223372036854775807 then (if ((⟨#[80, 79, 83, 84, 32, 47]⟩ : ByteArray) ++ x0).size + 20 ≤ 9223372036854775807 then (if (((⟨#[80, 79, 83, 84, 32, 47]⟩ : ByteArray) ++ x0) ++ (⟨#[32, 72, 84, 84, 80, 47, 49, 46, 49, 13, 10, 72, 111, 115, 116, 58, 32, 104, 13, 10]⟩ : ByteArray)).size + 16 ≤ 9223372036854775807 then ((broadsheetref03_Digits.f k (x2.size : Int)).bind fun t412 => (if ((((⟨#[80, 79, 83, 84, 32, 47]⟩ : ByteArray) ++ x0) ++ (⟨#[32, 72, 84, 84, 80, 47, 49, 46, 49, 13, 10, 72, 111, 115, 116, 58, 32, 104, 13, 10]⟩ : ByteArray)) ++ (⟨#[67, 111, 110, 116, 101, 110, 116, 45, 76, 101, 110, 103, 116, 104, 58, 32]⟩ : ByteArray)).size + t412.size ≤ 9223372036854775807 then (if (((((⟨#[80, 79, 83, 84, 32, 47]⟩ : ByteArray) ++ x0) ++ (⟨#[32, 72, 84, 84, 80, 47, 49, 46, 49, 13, 10, 72, 111, 115, 116, 58, 32, 104, 13, 10]⟩ : ByteArray)) ++ (⟨#[67, 111, 110, 116, 101, 110, 116, 45, 76, 101, 110, 103, 116, 104, 58, 32]⟩ : ByteArray)) ++ t412).size + 2 ≤ 9223372036854775807 then (if ((((((⟨#[80, 79, 83, 84, 32, 47]⟩ : ByteArray) ++ x0) ++ (⟨#[32, 72, 84, 84, 80, 47, 49, 46, 49, 13, 10, 72, 111, 115, 116, 58, 32, 104, 13, 10]⟩ : ByteArray)) ++ (⟨#[67, 111, 110, 116, 101, 110, 116, 45, 76, 101, 110, 103, 116, 104, 58, 32]⟩ : ByteArray)) ++ t412) ++ (⟨#[13, 10]⟩ : ByteArray)).size + x10.size ≤ 9223372036854775807 then (if (((((((⟨#[80, 79, 83, 84, 32, 47]⟩ : ByteArray) ++ x0) ++ (⟨#[32, 72, 84, 84, 80, 47, 49, 46, 49, 13, 10, 72, 111, 115, 116, 58, 32, 104, 13, 10]⟩ : ByteArray)) ++ (⟨#[67, 111, 110, 116, 101, 110, 116, 45, 76, 101, 110, 103, 116, 104, 58, 32]⟩ : ByteArray)) ++ t412) ++ (⟨#[13, 10]⟩ : ByteArray)) ++ x10).size + x2.size ≤ 9223372036854775807 then ((request_Parse.f ((((((((⟨#[80, 79, 83, 84, 32, 47]⟩ : ByteArray) ++ x0) ++ (⟨#[32, 72, 84, 84, 80, 47, 49, 46, 49, 13, 10, 72, 111, 115, 116, 58, 32, 104, 13, 10]⟩ : ByteArray)) ++ (⟨#[67, 111, 110, 116, 101, 110, 116, 45, 76, 101, 110, 103, 116, 104, 58, 32]⟩ : ByteArray)) ++ t412) ++ (⟨#[13, 10]⟩ : ByteArray)) ++ x10) ++ x2)).bind fun bt413 => ((broadsheetref19_Encode.f k x2 (wrap64 (1 + (wrap64 (x3))))).bind fun bt421 => (if (((⟨#[80, 79, 83, 84, 32, 47]⟩ : ByteArray) ++ x0) ++ (⟨#[32, 72, 84, 84, 80, 47, 49, 46, 49, 13, 10, 72, 111, 115, 116, 58, 32, 104, 13, 10]⟩ : ByteArray)).size + 28 ≤ 9223372036854775807 then (if ((((⟨#[80, 79, 83, 84, 32, 47]⟩ : ByteArray) ++ x0) ++ (⟨#[32, 72, 84, 84, 80, 47, 49, 46, 49, 13, 10, 72, 111, 115, 116, 58, 32, 104, 13, 10]⟩ : ByteArray)) ++ (⟨#[84, 114, 97, 110, 115, 102, 101, 114, 45, 69, 110, 99, 111, 100, 105, 110, 103, 58, 32, 67, 104, 117, 110, 107, 101, 100, 13, 10]⟩ : ByteArray)).size + x10.size ≤ 9223372036854775807 then (if (((((⟨#[80, 79, 83, 84, 32, 47]⟩ : ByteArray) ++ x0) ++ (⟨#[32, 72, 84, 84, 80, 47, 49, 46, 49, 13, 10, 72, 111, 115, 116, 58, 32, 104, 13, 10]⟩ : ByteArray)) ++ (⟨#[84, 114, 97, 110, 115, 102, 101, 114, 45, 69, 110, 99, 111, 100, 105, 110, 103, 58, 32, 67, 104, 117, 110, 107, 101, 100, 13, 10]⟩ : ByteArray)) ++ x10).size + bt421.1.size ≤ 9223372036854775807 then ((request_Parse.f ((((((⟨#[80, 79, 83, 84, 32, 47]⟩ : ByteArray) ++ x0) ++ (⟨#[32, 72, 84, 84, 80, 47, 49, 46, 49, 13, 10, 72, 111, 115, 116, 58, 32, 104, 13, 10]⟩ : ByteArray)) ++ (⟨#[84, 114, 97, 110, 115, 102, 101, 114, 45, 69, 110, 99, 111, 100, 105, 110, 103, 58, 32, 67, 104, 117, 110, 107, 101, 100, 13, 10]⟩ : ByteArray)) ++ x10) ++ bt421.1)).bind fun bt423 => (if bt413.2.2.2.2 = 0 then (if bt423.2.2.2.2 = 0 then (if (bt413.2.2.1.length : Int) = (wrap64 ((x1.length : Int) + 2)) then (broadsheetlaw20_RequestBack.j2 k x0 x1 x2 x9 ((bt423.2.2.1.length : Int) != (wrap64 ((x1.length : Int) + 2))) bt413.1 bt413.2.1 bt413.2.2.1 bt413.2.2.2.1 bt423.1 bt423.2.1 bt423.2.2.1 bt423.2.2.2.1) else (broadsheetlaw20_RequestBack.j2 k x0 x1 x2 x9 true bt413.1 bt413.2.1 bt413.2.2.1 bt413.2.2.2.1 bt423.1 bt423.2.1 bt423.2.2.1 bt423.2.2.2.1)) else (broadsheetlaw20_RequestBack.j2 k x0 x1 x2 x9 true bt413.1 bt413.2.1 bt413.2.2.1 bt413.2.2.2.1 bt423.1 bt423.2.1 bt423.2.2.1 bt423.2.2.2.1)) else (broadsheetlaw20_RequestBack.j2 k x0 x1 x2 x9 true bt413.1 bt413.2.1 bt413.2.2.1 bt413.2.2.2.1 bt423.1 bt423.2.1 bt423.2.2.1 bt423.2.2.2.1))) else (none)) else (none)) else (none)))) else (none)) else (none)) else (none)) else (none))) else (none)) else (none)) else (none))))))
def broadsheetlaw20_RequestBack.j2 : Nat → ByteArray → List (S49) → ByteArray → Bool → Bool → ByteArray → ByteArray → List (S49) → ByteArray → ByteArray → ByteArray → List (S49) → ByteArray → Option (Bool)
  | 0, _, _, _, _, _, _, _, _, _, _, _, _, _ => none
  | k + 1, x0, x1, x2, x9, x157, x421000, x421001, x421002, x421003, x431000, x431001, x431002, x431003 => if x157 = true then (some false) else (broadsheetlaw20_RequestBack.l1 k x0 x1 x2 x9 0 x421000 x421001 x421002 x421003 x431000 x431001 x431002 x431003)
def broadsheetlaw20_RequestBack.l1 : Nat → ByteArray → List (S49) → ByteArray → Bool → Int → ByteArray → ByteArray → List (S49) → ByteArray → ByteArray → ByteArray → List (S49) → ByteArray → Option (Bool)
  | 0, _, _, _, _, _, _, _, _, _, _, _, _, _ => none
  | k + 1, x0, x1, x2, x9, x26, x421000, x421001, x421002, x421003, x431000, x431001, x431002, x431003 => if x26 < (x1.length : Int) then (if 0 ≤ (wrap64 (x26 + 2)) then (if (wrap64 (x26 + 2)) < (x421002.length : Int) then (if 0 ≤ x26 then (if ((rd_T49 x421002 (wrap64 (x26 + 2))).f1).toList = ((rd_T49 x1 x26).f1).toList then (if (wrap64 (x26 + 2)) < (x431002.length : Int) then (if ((rd_T49 x431002 (wrap64 (x26 + 2))).f1).toList = ((rd_T49 x1 x26).f1).toList then (broadsheetlaw20_RequestBack.l1 k x0 x1 x2 x9 (wrap64 (x26 + 1)) x421000 x421001 x421002 x421003 x431000 x431001 x431002 x431003) else (some false)) else (none)) else (some false)) else (none)) else (none)) else (none)) else (if x9 = true then (if x421000.toList = ([80, 79, 83, 84] : List UInt8) then (if 1 + x0.size ≤ 9223372036854775807 then (if x421001.toList = ((⟨#[47]⟩ : ByteArray) ++ x0).toList then (if x421003.toList = x2.toList then (if x431001.toList = ((⟨#[47]⟩ : ByteArray) ++ x0).toList then (some (x431003.toList == x2.toList)) else (some false)) else (some false)) else (some false)) else (none)) else (some false)) else (some false))
end
def broadsheetlaw20_RequestBack.f (k : Nat) (a0 : ByteArray) (l1 : List (S49)) (a2 : ByteArray) (a3 : Int) : Option (Bool) := (broadsheetlaw20_awake.f).bind fun t403 => (if t403 = true then ((broadsheetref18_Print.f k l1).bind fun bt404 => (if bt404.2 = 0 then (if (bt404.1.size : Int) > 1000 then (broadsheetlaw20_RequestBack.j0 k a0 l1 a2 a3 t403 bt404.1 true) else (if (a2.size : Int) > 1000 then (broadsheetlaw20_RequestBack.j0 k a0 l1 a2 a3 t403 bt404.1 true) else (broadsheetlaw20_RequestBack.j0 k a0 l1 a2 a3 t403 bt404.1 (decide ((a0.size : Int) > 1000))))) else (broadsheetlaw20_RequestBack.j0 k a0 l1 a2 a3 t403 bt404.1 true))) else (some false))
set_option maxHeartbeats 8000000 in
set_option maxRecDepth 100000 in
theorem broadsheetlaw20_RequestBack.calls (k : Nat) (a0 : ByteArray) (A1 : Option Addr) (c1 : Nat) (l1 : List (S49)) (a2 : ByteArray) (a3 : Int) (r : Bool) (w : World) (hr1 : Kd.C k49 w A1 l1.length l1) (hc1 : l1.length ≤ c1) (hG : Glob w) (h : broadsheetlaw20_RequestBack.f k a0 l1 a2 a3 = some r) (hr : r = true) :
  Calls Tryz.prog 7 #[.string a0, .slice A1 l1.length c1, .string a2, .int .u8 a3] w fun e w' => e = .returned (.bool r) ∧ Below w.heap.size w w' := by
 have hu36 := Tryz.underlying36
 have HR1 := Aside0.mk hr1
 have HC1 := Aside0.mk hc1
 clear hr1 hc1
 have HB := Aside0.mk (Below.refl w.heap.size w)
 have hGA := Aside0.mk hG
 clear hG
 have H : ((broadsheetlaw20_awake.f).bind fun t403 => (if t403 = true then ((broadsheetref18_Print.f k l1).bind fun bt404 => (if bt404.2 = 0 then (if (bt404.1.size : Int) > 1000 then (broadsheetlaw20_RequestBack.j0 k a0 l1 a2 a3 t403 bt404.1 true) else (if (a2.size : Int) > 1000 then (broadsheetlaw20_RequestBack.j0 k a0 l1 a2 a3 t403 bt404.1 true) else (broadsheetlaw20_RequestBack.j0 k a0 l1 a2 a3 t403 bt404.1 (decide ((a0.size : Int) > 1000))))) else (broadsheetlaw20_RequestBack.j0 k a0 l1 a2 a3 t403 bt404.1 true))) else (some false))) = some r := h
 clear h
 replace H := Option.bind_eq_some_iff.mp H
 obtain ⟨t403, A50, H⟩ := H
 replace H : (if t403 = true then ((broadsheetref18_Print.f k l1).bind fun bt404 => (if bt404.2 = 0 then (if (bt404.1.size : Int) > 1000 then (broadsheetlaw20_RequestBack.j0 k a0 l1 a2 a3 t403 bt404.1 true) else (if (a2.size : Int) > 1000 then (broadsheetlaw20_RequestBack.j0 k a0 l1 a2 a3 t403 bt404.1 true) else (broadsheetlaw20_RequestBack.j0 k a0 l1 a2 a3 t403 bt404.1 (decide ((a0.size : Int) > 1000))))) else (broadsheetlaw20_RequestBack.j0 k a0 l1 a2 a3 t403 bt404.1 true))) else (some false)) = some r := H
 have A5 := Aside0.mk A50
 clear A50
 by_cases c6 : t403 = true
 ·subst c6
  replace H : ((broadsheetref18_Print.f k l1).bind fun bt404 => (if bt404.2 = 0 then (if (bt404.1.size : Int) > 1000 then (broadsheetlaw20_RequestBack.j0 k a0 l1 a2 a3 true bt404.1 true) else (if (a2.size : Int) > 1000 then (broadsheetlaw20_RequestBack.j0 k a0 l1 a2 a3 true bt404.1 true) else (broadsheetlaw20_RequestBack.j0 k a0 l1 a2 a3 true bt404.1 (decide ((a0.size : Int) > 1000))))) else (broadsheetlaw20_RequestBack.j0 k a0 l1 a2 a3 true bt404.1 true))) = some r := by first | (rw [if_pos rfl] at H; exact H) | (rw [if_pos trivial] at H; exact H)
  replace H := Option.bind_eq_some_iff.mp H
  obtain ⟨⟨t404, t405⟩, A70, H⟩ := H
  replace H : (if t405 = 0 then (if (t404.size : Int) > 1000 then (broadsheetlaw20_RequestBack.j0 k a0 l1 a2 a3 true t404 true) else (if (a2.size : Int) > 1000 then (broadsheetlaw20_RequestBack.j0 k a0 l1 a2 a3 true t404 true) else (broadsheetlaw20_RequestBack.j0 k a0 l1 a2 a3 true t404 (decide ((a0.size : Int) > 1000))))) else (broadsheetlaw20_RequestBack.j0 k a0 l1 a2 a3 true t404 true)) = some r := H
  have A7 := Aside0.mk A70
  clear A70
  have HC8 := Aside0.mk H
  clear H
  go_enter Tryz.func7, Tryz.ntmps7
  go_upto_region 5 with (first | (go_at_call 16; (with_reducible refine (broadsheetlaw20_awake.calls  true _ ?side1 A5.out (by first | rfl | exact hr)).mono ?_); (case side1 => exact Glob.below hGA.out zb0); rintro e w9 ⟨rfl, hb⟩; have n0_ := Aside0.mk (below_step zb0 hb); clear HB; have HB := n0_; clear n0_; (try clear hb); (try clear hb2); (try clear hk); (try clear hi)) | (go_at_call 24; (with_reducible refine (broadsheetref18_Print.calls k _ _ l1 t404 t405 _ ?side1 ?side2 A7.out).mono ?_); (case side1 => repeat (first | exact (Kd.C_below HR1.out HB.out) | (with_reducible refine Kd.C_alloc ?_ _) | (with_reducible refine Kd.C_drewN ?_ _) | (with_reducible refine Kd.C_drew ?_))); (case side2 => exact HC1.out); rintro e w' ⟨rfl, ⟨nd, rfl⟩⟩; (try first | exact ⟨rfl, _, World.drewN_drewN _ _ _⟩ | exact ⟨rfl, _, Eq.trans (World.drewN_drewN _ _ _) (congrArg (World.drewN _) (Nat.add_assoc _ _ _))⟩)))
  repeat (go_quiet (first | (go_at_call 16; (with_reducible refine (broadsheetlaw20_awake.calls  true _ ?side1 A5.out (by first | rfl | exact hr)).mono ?_); (case side1 => exact Glob.below hGA.out zb0); rintro e w9 ⟨rfl, hb⟩; have n0_ := Aside0.mk (below_step zb0 hb); clear HB; have HB := n0_; clear n0_; (try clear hb); (try clear hb2); (try clear hk); (try clear hi)) | (go_at_call 24; (with_reducible refine (broadsheetref18_Print.calls k _ _ l1 t404 t405 _ ?side1 ?side2 A7.out).mono ?_); (case side1 => repeat (first | exact (Kd.C_below HR1.out HB.out) | (with_reducible refine Kd.C_alloc ?_ _) | (with_reducible refine Kd.C_drewN ?_ _) | (with_reducible refine Kd.C_drew ?_))); (case side2 => exact HC1.out); rintro e w' ⟨rfl, ⟨nd, rfl⟩⟩; (try first | exact ⟨rfl, _, World.drewN_drewN _ _ _⟩ | exact ⟨rfl, _, Eq.trans (World.drewN_drewN _ _ _) (congrArg (World.drewN _) (Nat.add_assoc _ _ _))⟩))); go_upto_region 5 with (first | (go_at_call 16; (with_reducible refine (broadsheetlaw20_awake.calls  true _ ?side1 A5.out (by first | rfl | exact hr)).mono ?_); (case side1 => exact Glob.below hGA.out zb0); rintro e w9 ⟨rfl, hb⟩; have n0_ := Aside0.mk (below_step zb0 hb); clear HB; have HB := n0_; clear n0_; (try clear hb); (try clear hb2); (try clear hk); (try clear hi)) | (go_at_call 24; (with_reducible refine (broadsheetref18_Print.calls k _ _ l1 t404 t405 _ ?side1 ?side2 A7.out).mono ?_); (case side1 => repeat (first | exact (Kd.C_below HR1.out HB.out) | (with_reducible refine Kd.C_alloc ?_ _) | (with_reducible refine Kd.C_drewN ?_ _) | (with_reducible refine Kd.C_drew ?_))); (case side2 => exact HC1.out); rintro e w' ⟨rfl, ⟨nd, rfl⟩⟩; (try first | exact ⟨rfl, _, World.drewN_drewN _ _ _⟩ | exact ⟨rfl, _, Eq.trans (World.drewN_drewN _ _ _) (congrArg (World.drewN _) (Nat.add_assoc _ _ _))⟩))))
  (try simp only [Act.put, List.setIfInBounds_toArray, List.set_cons_zero, List.set_cons_succ])
  go_cut [51] (fun v51 wc => ∃ (kq : Nat) (x51_7 : Bool), v51 = .bool x51_7 ∧ Aside0 (broadsheetlaw20_RequestBack.j0 kq a0 l1 a2 a3 true t404 x51_7 = some r) ∧ Aside0 (kq ≤ k) ∧ Aside0 (Below w.heap.size w wc))
  case first =>
   have H := HC8.out
   clear HC8
   by_cases c10 : t405 = 0
   ·rw [if_pos c10] at H
    have c10b0 : (t405 == 0) = true := beq_iff_eq.mpr c10
    have c10b1 : (t405 != 0) = false := bne_eq_false_iff_eq.mpr c10
    clear c10
    (first | rw [c10b0] | (simp only [i64_w, i32_w]; rw [c10b0]) | skip)
    by_cases c11 : (t404.size : Int) > 1000
    ·rw [if_pos c11] at H
     have c11b0 : decide (1000 < (t404.size : Int)) = true := decide_eq_true c11
     have c11b1 : decide (1000 < t404.size) = true := decide_eq_true zb17
     clear c11
     have H' := Aside0.mk H
     clear H
     go_wp2
     repeat (go_quiet (fail); try go_wp2)
     go_meet
     case rel => exact ⟨_, (true), zb6, H', ⟨by first | omega | exact Nat.le_refl _⟩, ⟨by repeat (first | (with_reducible first | exact HB.out | apply below_alloc | apply pw_below_drewN | apply below_drew1) | exact HB.out)⟩⟩
    ·rw [if_neg c11] at H
     have c11b0 : decide (1000 < (t404.size : Int)) = false := decide_eq_false c11
     have c11b1 : decide (1000 < t404.size) = false := decide_eq_false zb17
     clear c11
     by_cases c12 : (a2.size : Int) > 1000
     ·rw [if_pos c12] at H
      have c12b0 : decide (1000 < (a2.size : Int)) = true := decide_eq_true c12
      have c12b1 : decide (1000 < a2.size) = true := decide_eq_true zb17
      clear c12
      have H' := Aside0.mk H
      clear H
      go_wp2
      repeat (go_quiet (fail); try go_wp2)
      go_meet
      case rel => exact ⟨_, (true), zb6, H', ⟨by first | omega | exact Nat.le_refl _⟩, ⟨by repeat (first | (with_reducible first | exact HB.out | apply below_alloc | apply pw_below_drewN | apply below_drew1) | exact HB.out)⟩⟩
     ·rw [if_neg c12] at H
      have c12b0 : decide (1000 < (a2.size : Int)) = false := decide_eq_false c12
      have c12b1 : decide (1000 < a2.size) = false := decide_eq_false zb17
      clear c12
      have H' := Aside0.mk H
      clear H
      go_wp2
      repeat (go_quiet (fail); try go_wp2)
      go_meet
      case rel => exact ⟨_, (decide ((a0.size : Int) > 1000)), zb6, H', ⟨by first | omega | exact Nat.le_refl _⟩, ⟨by repeat (first | (with_reducible first | exact HB.out | apply below_alloc | apply pw_below_drewN | apply below_drew1) | exact HB.out)⟩⟩
   ·rw [if_neg c10] at H
    have c10b0 : (t405 == 0) = false := beq_eq_false_iff_ne.mpr c10
    have c10b1 : (t405 != 0) = true := bne_iff_ne.mpr c10
    (first | rw [c10b0] | (simp only [i64_w, i32_w]; rw [c10b0]) | skip)
    have H' := Aside0.mk H
    clear H
    go_wp2
    repeat (go_quiet (fail); try go_wp2)
    go_meet
    case rel => exact ⟨_, (true), zb6, H', ⟨by first | omega | exact Nat.le_refl _⟩, ⟨by repeat (first | (with_reducible first | exact HB.out | apply below_alloc | apply pw_below_drewN | apply below_drew1) | exact HB.out)⟩⟩
  case rest =>
   clear HC8
   try clear c1
   try clear p2
   try clear c6
   try clear c7
   try clear c10
   try clear c10b0
   try clear c10b1
   try clear c11
   try clear c11b0
   try clear c11b1
   try clear c12
   try clear c12b0
   try clear c12b1
   obtain ⟨kq, x51_7, rfl, HA, HJ7, HB⟩ := hcut
   cases kq with
   | zero => exact absurd HA.out (by simp [broadsheetlaw20_RequestBack.j0])
   | succ kj7 =>
    have H := HA.out
    clear HA
    simp only [broadsheetlaw20_RequestBack.j0] at H
    by_cases c13 : x51_7 = true
    ·subst c13
     replace H : (some true) = some r := by first | (rw [if_pos rfl] at H; exact H) | (rw [if_pos trivial] at H; exact H)
     obtain rfl := Option.some.inj H
     go_wp2
     repeat (go_quiet (fail); try go_wp2)
     go_ret
     exact ⟨zb4, zb0⟩
    ·replace c13 := Bool.eq_false_iff.mpr c13
     subst c13
     replace H : (broadsheetlaw20_RequestBack.l0 kj7 a0 l1 a2 a3 true t404 0) = some r := by rw [if_neg (show ¬ (false = true) by decide)] at H; exact H
     have H' := Aside0.mk H
     clear H
     go_wp2
     repeat (go_quiet (fail); try go_wp2)
     first | go_loopg [12] kj7 (fun kq v12 w' => ∃ (x12_2 : Int), v12 = .int .i64 x12_2 ∧ Aside0 (broadsheetlaw20_RequestBack.l0 kq a0 l1 a2 a3 true t404 x12_2 = some r) ∧ Aside0 (kq ≤ kj7) ∧ Aside0 (Below w.heap.size w w')) | (go_simp; go_loopg [12] kj7 (fun kq v12 w' => ∃ (x12_2 : Int), v12 = .int .i64 x12_2 ∧ Aside0 (broadsheetlaw20_RequestBack.l0 kq a0 l1 a2 a3 true t404 x12_2 = some r) ∧ Aside0 (kq ≤ kj7) ∧ Aside0 (Below w.heap.size w w')))
     case atStart => exact ⟨(0), zb6, H', ⟨Nat.le_refl _⟩, ⟨by repeat (first | (with_reducible first | exact HB.out | apply below_alloc | apply pw_below_drewN | apply below_drew1) | exact HB.out)⟩⟩
     case round =>
      clear H'
      try clear c1
      try clear p2
      try clear c6
      try clear c7
      try clear c10
      try clear c10b0
      try clear c10b1
      try clear c11
      try clear c11b0
      try clear c11b1
      try clear c12
      try clear c12b0
      try clear c12b1
      try clear c13
      try clear p2
      obtain ⟨x12_2, rfl, HA, HK2, HB⟩ := hrel
      cases gk with
      | zero => exact absurd HA.out (by simp [broadsheetlaw20_RequestBack.l0])
      | succ k2 =>
       have H := HA.out
       clear HA
       simp only [broadsheetlaw20_RequestBack.l0] at H
       by_cases c14 : x12_2 < (a0.size : Int)
       ·rw [if_pos c14] at H
        have c14b0 : decide (x12_2 < (a0.size : Int)) = true := decide_eq_true c14
        clear c14
        by_cases c15 : 0 ≤ x12_2
        ·rw [if_pos c15] at H
         have c15b0 : decide (0 ≤ x12_2) = true := decide_eq_true c15
         clear c15
         by_cases c17 : (bt a0 x12_2) < 33
         ·rw [if_pos c17] at H
          have c17b0 : decide ((bt a0 x12_2) < 33) = true := decide_eq_true c17
          clear c17
          obtain rfl := Option.some.inj H
          have p16 : 0 ≤ (x12_2 : Int) := of_decide_eq_true zb2
          have q16 : x12_2 < (a0.size : Int) := of_decide_eq_true zb2
          have hx16 := bt_at a0 x12_2
          replace p16 := eq_true p16
          replace q16 := eq_true q16
          go_wp2
          repeat (go_quiet (fail); try go_wp2)
          go_ret
          exact ⟨zb4, zb0⟩
         ·rw [if_neg c17] at H
          have c17b0 : decide ((bt a0 x12_2) < 33) = false := decide_eq_false c17
          clear c17
          by_cases c19 : (bt a0 x12_2) > 126
          ·rw [if_pos c19] at H
           have c19b0 : decide (126 < (bt a0 x12_2)) = true := decide_eq_true c19
           clear c19
           obtain rfl := Option.some.inj H
           have p16 : 0 ≤ (x12_2 : Int) := of_decide_eq_true zb2
           have q16 : x12_2 < (a0.size : Int) := of_decide_eq_true zb2
           have hx16 := bt_at a0 x12_2
           replace p16 := eq_true p16
           replace q16 := eq_true q16
           have p18 : 0 ≤ (x12_2 : Int) := of_decide_eq_true zb2
           have q18 : x12_2 < (a0.size : Int) := of_decide_eq_true zb2
           have hx18 := bt_at a0 x12_2
           replace p18 := eq_true p18
           replace q18 := eq_true q18
           go_wp2
           repeat (go_quiet (fail); try go_wp2)
           go_ret
           exact ⟨zb4, zb0⟩
          ·rw [if_neg c19] at H
           have c19b0 : decide (126 < (bt a0 x12_2)) = false := decide_eq_false c19
           clear c19
           by_cases c21 : (bt a0 x12_2) = 35
           ·rw [if_pos c21] at H
            have c21b0 : ((bt a0 x12_2) == 35) = true := beq_iff_eq.mpr c21
            have c21b1 : ((bt a0 x12_2) != 35) = false := bne_eq_false_iff_eq.mpr c21
            clear c21
            obtain rfl := Option.some.inj H
            have p16 : 0 ≤ (x12_2 : Int) := of_decide_eq_true zb2
            have q16 : x12_2 < (a0.size : Int) := of_decide_eq_true zb2
            have hx16 := bt_at a0 x12_2
            replace p16 := eq_true p16
            replace q16 := eq_true q16
            have p18 : 0 ≤ (x12_2 : Int) := of_decide_eq_true zb2
            have q18 : x12_2 < (a0.size : Int) := of_decide_eq_true zb2
            have hx18 := bt_at a0 x12_2
            replace p18 := eq_true p18
            replace q18 := eq_true q18
            have p20 : 0 ≤ (x12_2 : Int) := of_decide_eq_true zb2
            have q20 : x12_2 < (a0.size : Int) := of_decide_eq_true zb2
            have hx20 := bt_at a0 x12_2
            replace p20 := eq_true p20
            replace q20 := eq_true q20
            go_wp2
            repeat (go_quiet (fail); try go_wp2)
            go_ret
            exact ⟨zb4, zb0⟩
           ·rw [if_neg c21] at H
            have c21b0 : ((bt a0 x12_2) == 35) = false := beq_eq_false_iff_ne.mpr c21
            have c21b1 : ((bt a0 x12_2) != 35) = true := bne_iff_ne.mpr c21
            have H' := Aside0.mk H
            clear H
            have p16 : 0 ≤ (x12_2 : Int) := of_decide_eq_true zb2
            have q16 : x12_2 < (a0.size : Int) := of_decide_eq_true zb2
            have hx16 := bt_at a0 x12_2
            replace p16 := eq_true p16
            replace q16 := eq_true q16
            have p18 : 0 ≤ (x12_2 : Int) := of_decide_eq_true zb2
            have q18 : x12_2 < (a0.size : Int) := of_decide_eq_true zb2
            have hx18 := bt_at a0 x12_2
            replace p18 := eq_true p18
            replace q18 := eq_true q18
            have p20 : 0 ≤ (x12_2 : Int) := of_decide_eq_true zb2
            have q20 : x12_2 < (a0.size : Int) := of_decide_eq_true zb2
            have hx20 := bt_at a0 x12_2
            replace p20 := eq_true p20
            replace q20 := eq_true q20
            go_wp2
            repeat (go_quiet (fail); try go_wp2)
            go_roundg k2
            case measure => have := HJ7.out; have := HK2.out; omega
            case rel => exact ⟨(wrap64 (x12_2 + 1)), zb6, H', ⟨by have := HJ7.out; have := HK2.out; omega⟩, ⟨by repeat (first | (with_reducible first | exact HB.out | apply below_alloc | apply pw_below_drewN | apply below_drew1) | exact HB.out)⟩⟩
        ·rw [if_neg c15] at H
         exact absurd H zb25
       ·rw [if_neg c14] at H
        have c14b0 : decide (x12_2 < (a0.size : Int)) = false := decide_eq_false c14
        clear c14
        replace H := Option.bind_eq_some_iff.mp H
        obtain ⟨⟨t406, t407⟩, A220, H⟩ := H
        replace H : ((broadsheetref18_Get.f k2 l1 (⟨#[99, 111, 110, 116, 101, 110, 116, 45, 108, 101, 110, 103, 116, 104]⟩ : ByteArray)).bind fun bt408 => ((broadsheetref18_Get.f k2 l1 (⟨#[116, 114, 97, 110, 115, 102, 101, 114, 45, 101, 110, 99, 111, 100, 105, 110, 103]⟩ : ByteArray)).bind fun bt410 => (if (wrap64 ((wrap64 (t407 + bt408.2)) + bt410.2)) > 0 then (some true) else (if 6 + a0.size ≤ 9223372036854775807 then (if ((⟨#[80, 79, 83, 84, 32, 47]⟩ : ByteArray) ++ a0).size + 20 ≤ 9223372036854775807 then (if (((⟨#[80, 79, 83, 84, 32, 47]⟩ : ByteArray) ++ a0) ++ (⟨#[32, 72, 84, 84, 80, 47, 49, 46, 49, 13, 10, 72, 111, 115, 116, 58, 32, 104, 13, 10]⟩ : ByteArray)).size + 16 ≤ 9223372036854775807 then ((broadsheetref03_Digits.f k2 (a2.size : Int)).bind fun t412 => (if ((((⟨#[80, 79, 83, 84, 32, 47]⟩ : ByteArray) ++ a0) ++ (⟨#[32, 72, 84, 84, 80, 47, 49, 46, 49, 13, 10, 72, 111, 115, 116, 58, 32, 104, 13, 10]⟩ : ByteArray)) ++ (⟨#[67, 111, 110, 116, 101, 110, 116, 45, 76, 101, 110, 103, 116, 104, 58, 32]⟩ : ByteArray)).size + t412.size ≤ 9223372036854775807 then (if (((((⟨#[80, 79, 83, 84, 32, 47]⟩ : ByteArray) ++ a0) ++ (⟨#[32, 72, 84, 84, 80, 47, 49, 46, 49, 13, 10, 72, 111, 115, 116, 58, 32, 104, 13, 10]⟩ : ByteArray)) ++ (⟨#[67, 111, 110, 116, 101, 110, 116, 45, 76, 101, 110, 103, 116, 104, 58, 32]⟩ : ByteArray)) ++ t412).size + 2 ≤ 9223372036854775807 then (if ((((((⟨#[80, 79, 83, 84, 32, 47]⟩ : ByteArray) ++ a0) ++ (⟨#[32, 72, 84, 84, 80, 47, 49, 46, 49, 13, 10, 72, 111, 115, 116, 58, 32, 104, 13, 10]⟩ : ByteArray)) ++ (⟨#[67, 111, 110, 116, 101, 110, 116, 45, 76, 101, 110, 103, 116, 104, 58, 32]⟩ : ByteArray)) ++ t412) ++ (⟨#[13, 10]⟩ : ByteArray)).size + t404.size ≤ 9223372036854775807 then (if (((((((⟨#[80, 79, 83, 84, 32, 47]⟩ : ByteArray) ++ a0) ++ (⟨#[32, 72, 84, 84, 80, 47, 49, 46, 49, 13, 10, 72, 111, 115, 116, 58, 32, 104, 13, 10]⟩ : ByteArray)) ++ (⟨#[67, 111, 110, 116, 101, 110, 116, 45, 76, 101, 110, 103, 116, 104, 58, 32]⟩ : ByteArray)) ++ t412) ++ (⟨#[13, 10]⟩ : ByteArray)) ++ t404).size + a2.size ≤ 9223372036854775807 then ((request_Parse.f ((((((((⟨#[80, 79, 83, 84, 32, 47]⟩ : ByteArray) ++ a0) ++ (⟨#[32, 72, 84, 84, 80, 47, 49, 46, 49, 13, 10, 72, 111, 115, 116, 58, 32, 104, 13, 10]⟩ : ByteArray)) ++ (⟨#[67, 111, 110, 116, 101, 110, 116, 45, 76, 101, 110, 103, 116, 104, 58, 32]⟩ : ByteArray)) ++ t412) ++ (⟨#[13, 10]⟩ : ByteArray)) ++ t404) ++ a2)).bind fun bt413 => ((broadsheetref19_Encode.f k2 a2 (wrap64 (1 + (wrap64 (a3))))).bind fun bt421 => (if (((⟨#[80, 79, 83, 84, 32, 47]⟩ : ByteArray) ++ a0) ++ (⟨#[32, 72, 84, 84, 80, 47, 49, 46, 49, 13, 10, 72, 111, 115, 116, 58, 32, 104, 13, 10]⟩ : ByteArray)).size + 28 ≤ 9223372036854775807 then (if ((((⟨#[80, 79, 83, 84, 32, 47]⟩ : ByteArray) ++ a0) ++ (⟨#[32, 72, 84, 84, 80, 47, 49, 46, 49, 13, 10, 72, 111, 115, 116, 58, 32, 104, 13, 10]⟩ : ByteArray)) ++ (⟨#[84, 114, 97, 110, 115, 102, 101, 114, 45, 69, 110, 99, 111, 100, 105, 110, 103, 58, 32, 67, 104, 117, 110, 107, 101, 100, 13, 10]⟩ : ByteArray)).size + t404.size ≤ 9223372036854775807 then (if (((((⟨#[80, 79, 83, 84, 32, 47]⟩ : ByteArray) ++ a0) ++ (⟨#[32, 72, 84, 84, 80, 47, 49, 46, 49, 13, 10, 72, 111, 115, 116, 58, 32, 104, 13, 10]⟩ : ByteArray)) ++ (⟨#[84, 114, 97, 110, 115, 102, 101, 114, 45, 69, 110, 99, 111, 100, 105, 110, 103, 58, 32, 67, 104, 117, 110, 107, 101, 100, 13, 10]⟩ : ByteArray)) ++ t404).size + bt421.1.size ≤ 9223372036854775807 then ((request_Parse.f ((((((⟨#[80, 79, 83, 84, 32, 47]⟩ : ByteArray) ++ a0) ++ (⟨#[32, 72, 84, 84, 80, 47, 49, 46, 49, 13, 10, 72, 111, 115, 116, 58, 32, 104, 13, 10]⟩ : ByteArray)) ++ (⟨#[84, 114, 97, 110, 115, 102, 101, 114, 45, 69, 110, 99, 111, 100, 105, 110, 103, 58, 32, 67, 104, 117, 110, 107, 101, 100, 13, 10]⟩ : ByteArray)) ++ t404) ++ bt421.1)).bind fun bt423 => (if bt413.2.2.2.2 = 0 then (if bt423.2.2.2.2 = 0 then (if (bt413.2.2.1.length : Int) = (wrap64 ((l1.length : Int) + 2)) then (broadsheetlaw20_RequestBack.j2 k2 a0 l1 a2 true ((bt423.2.2.1.length : Int) != (wrap64 ((l1.length : Int) + 2))) bt413.1 bt413.2.1 bt413.2.2.1 bt413.2.2.2.1 bt423.1 bt423.2.1 bt423.2.2.1 bt423.2.2.2.1) else (broadsheetlaw20_RequestBack.j2 k2 a0 l1 a2 true true bt413.1 bt413.2.1 bt413.2.2.1 bt413.2.2.2.1 bt423.1 bt423.2.1 bt423.2.2.1 bt423.2.2.2.1)) else (broadsheetlaw20_RequestBack.j2 k2 a0 l1 a2 true true bt413.1 bt413.2.1 bt413.2.2.1 bt413.2.2.2.1 bt423.1 bt423.2.1 bt423.2.2.1 bt423.2.2.2.1)) else (broadsheetlaw20_RequestBack.j2 k2 a0 l1 a2 true true bt413.1 bt413.2.1 bt413.2.2.1 bt413.2.2.2.1 bt423.1 bt423.2.1 bt423.2.2.1 bt423.2.2.2.1))) else (none)) else (none)) else (none)))) else (none)) else (none)) else (none)) else (none))) else (none)) else (none)) else (none))))) = some r := H
        have A22 := Aside0.mk A220
        clear A220
        replace H := Option.bind_eq_some_iff.mp H
        obtain ⟨⟨t408, t409⟩, A230, H⟩ := H
        replace H : ((broadsheetref18_Get.f k2 l1 (⟨#[116, 114, 97, 110, 115, 102, 101, 114, 45, 101, 110, 99, 111, 100, 105, 110, 103]⟩ : ByteArray)).bind fun bt410 => (if (wrap64 ((wrap64 (t407 + t409)) + bt410.2)) > 0 then (some true) else (if 6 + a0.size ≤ 9223372036854775807 then (if ((⟨#[80, 79, 83, 84, 32, 47]⟩ : ByteArray) ++ a0).size + 20 ≤ 9223372036854775807 then (if (((⟨#[80, 79, 83, 84, 32, 47]⟩ : ByteArray) ++ a0) ++ (⟨#[32, 72, 84, 84, 80, 47, 49, 46, 49, 13, 10, 72, 111, 115, 116, 58, 32, 104, 13, 10]⟩ : ByteArray)).size + 16 ≤ 9223372036854775807 then ((broadsheetref03_Digits.f k2 (a2.size : Int)).bind fun t412 => (if ((((⟨#[80, 79, 83, 84, 32, 47]⟩ : ByteArray) ++ a0) ++ (⟨#[32, 72, 84, 84, 80, 47, 49, 46, 49, 13, 10, 72, 111, 115, 116, 58, 32, 104, 13, 10]⟩ : ByteArray)) ++ (⟨#[67, 111, 110, 116, 101, 110, 116, 45, 76, 101, 110, 103, 116, 104, 58, 32]⟩ : ByteArray)).size + t412.size ≤ 9223372036854775807 then (if (((((⟨#[80, 79, 83, 84, 32, 47]⟩ : ByteArray) ++ a0) ++ (⟨#[32, 72, 84, 84, 80, 47, 49, 46, 49, 13, 10, 72, 111, 115, 116, 58, 32, 104, 13, 10]⟩ : ByteArray)) ++ (⟨#[67, 111, 110, 116, 101, 110, 116, 45, 76, 101, 110, 103, 116, 104, 58, 32]⟩ : ByteArray)) ++ t412).size + 2 ≤ 9223372036854775807 then (if ((((((⟨#[80, 79, 83, 84, 32, 47]⟩ : ByteArray) ++ a0) ++ (⟨#[32, 72, 84, 84, 80, 47, 49, 46, 49, 13, 10, 72, 111, 115, 116, 58, 32, 104, 13, 10]⟩ : ByteArray)) ++ (⟨#[67, 111, 110, 116, 101, 110, 116, 45, 76, 101, 110, 103, 116, 104, 58, 32]⟩ : ByteArray)) ++ t412) ++ (⟨#[13, 10]⟩ : ByteArray)).size + t404.size ≤ 9223372036854775807 then (if (((((((⟨#[80, 79, 83, 84, 32, 47]⟩ : ByteArray) ++ a0) ++ (⟨#[32, 72, 84, 84, 80, 47, 49, 46, 49, 13, 10, 72, 111, 115, 116, 58, 32, 104, 13, 10]⟩ : ByteArray)) ++ (⟨#[67, 111, 110, 116, 101, 110, 116, 45, 76, 101, 110, 103, 116, 104, 58, 32]⟩ : ByteArray)) ++ t412) ++ (⟨#[13, 10]⟩ : ByteArray)) ++ t404).size + a2.size ≤ 9223372036854775807 then ((request_Parse.f ((((((((⟨#[80, 79, 83, 84, 32, 47]⟩ : ByteArray) ++ a0) ++ (⟨#[32, 72, 84, 84, 80, 47, 49, 46, 49, 13, 10, 72, 111, 115, 116, 58, 32, 104, 13, 10]⟩ : ByteArray)) ++ (⟨#[67, 111, 110, 116, 101, 110, 116, 45, 76, 101, 110, 103, 116, 104, 58, 32]⟩ : ByteArray)) ++ t412) ++ (⟨#[13, 10]⟩ : ByteArray)) ++ t404) ++ a2)).bind fun bt413 => ((broadsheetref19_Encode.f k2 a2 (wrap64 (1 + (wrap64 (a3))))).bind fun bt421 => (if (((⟨#[80, 79, 83, 84, 32, 47]⟩ : ByteArray) ++ a0) ++ (⟨#[32, 72, 84, 84, 80, 47, 49, 46, 49, 13, 10, 72, 111, 115, 116, 58, 32, 104, 13, 10]⟩ : ByteArray)).size + 28 ≤ 9223372036854775807 then (if ((((⟨#[80, 79, 83, 84, 32, 47]⟩ : ByteArray) ++ a0) ++ (⟨#[32, 72, 84, 84, 80, 47, 49, 46, 49, 13, 10, 72, 111, 115, 116, 58, 32, 104, 13, 10]⟩ : ByteArray)) ++ (⟨#[84, 114, 97, 110, 115, 102, 101, 114, 45, 69, 110, 99, 111, 100, 105, 110, 103, 58, 32, 67, 104, 117, 110, 107, 101, 100, 13, 10]⟩ : ByteArray)).size + t404.size ≤ 9223372036854775807 then (if (((((⟨#[80, 79, 83, 84, 32, 47]⟩ : ByteArray) ++ a0) ++ (⟨#[32, 72, 84, 84, 80, 47, 49, 46, 49, 13, 10, 72, 111, 115, 116, 58, 32, 104, 13, 10]⟩ : ByteArray)) ++ (⟨#[84, 114, 97, 110, 115, 102, 101, 114, 45, 69, 110, 99, 111, 100, 105, 110, 103, 58, 32, 67, 104, 117, 110, 107, 101, 100, 13, 10]⟩ : ByteArray)) ++ t404).size + bt421.1.size ≤ 9223372036854775807 then ((request_Parse.f ((((((⟨#[80, 79, 83, 84, 32, 47]⟩ : ByteArray) ++ a0) ++ (⟨#[32, 72, 84, 84, 80, 47, 49, 46, 49, 13, 10, 72, 111, 115, 116, 58, 32, 104, 13, 10]⟩ : ByteArray)) ++ (⟨#[84, 114, 97, 110, 115, 102, 101, 114, 45, 69, 110, 99, 111, 100, 105, 110, 103, 58, 32, 67, 104, 117, 110, 107, 101, 100, 13, 10]⟩ : ByteArray)) ++ t404) ++ bt421.1)).bind fun bt423 => (if bt413.2.2.2.2 = 0 then (if bt423.2.2.2.2 = 0 then (if (bt413.2.2.1.length : Int) = (wrap64 ((l1.length : Int) + 2)) then (broadsheetlaw20_RequestBack.j2 k2 a0 l1 a2 true ((bt423.2.2.1.length : Int) != (wrap64 ((l1.length : Int) + 2))) bt413.1 bt413.2.1 bt413.2.2.1 bt413.2.2.2.1 bt423.1 bt423.2.1 bt423.2.2.1 bt423.2.2.2.1) else (broadsheetlaw20_RequestBack.j2 k2 a0 l1 a2 true true bt413.1 bt413.2.1 bt413.2.2.1 bt413.2.2.2.1 bt423.1 bt423.2.1 bt423.2.2.1 bt423.2.2.2.1)) else (broadsheetlaw20_RequestBack.j2 k2 a0 l1 a2 true true bt413.1 bt413.2.1 bt413.2.2.1 bt413.2.2.2.1 bt423.1 bt423.2.1 bt423.2.2.1 bt423.2.2.2.1)) else (broadsheetlaw20_RequestBack.j2 k2 a0 l1 a2 true true bt413.1 bt413.2.1 bt413.2.2.1 bt413.2.2.2.1 bt423.1 bt423.2.1 bt423.2.2.1 bt423.2.2.2.1))) else (none)) else (none)) else (none)))) else (none)) else (none)) else (none)) else (none))) else (none)) else (none)) else (none)))) = some r := H
        have A23 := Aside0.mk A230
        clear A230
        replace H := Option.bind_eq_some_iff.mp H
        obtain ⟨⟨t410, t411⟩, A240, H⟩ := H
        replace H : (if (wrap64 ((wrap64 (t407 + t409)) + t411)) > 0 then (some true) else (if 6 + a0.size ≤ 9223372036854775807 then (if ((⟨#[80, 79, 83, 84, 32, 47]⟩ : ByteArray) ++ a0).size + 20 ≤ 9223372036854775807 then (if (((⟨#[80, 79, 83, 84, 32, 47]⟩ : ByteArray) ++ a0) ++ (⟨#[32, 72, 84, 84, 80, 47, 49, 46, 49, 13, 10, 72, 111, 115, 116, 58, 32, 104, 13, 10]⟩ : ByteArray)).size + 16 ≤ 9223372036854775807 then ((broadsheetref03_Digits.f k2 (a2.size : Int)).bind fun t412 => (if ((((⟨#[80, 79, 83, 84, 32, 47]⟩ : ByteArray) ++ a0) ++ (⟨#[32, 72, 84, 84, 80, 47, 49, 46, 49, 13, 10, 72, 111, 115, 116, 58, 32, 104, 13, 10]⟩ : ByteArray)) ++ (⟨#[67, 111, 110, 116, 101, 110, 116, 45, 76, 101, 110, 103, 116, 104, 58, 32]⟩ : ByteArray)).size + t412.size ≤ 9223372036854775807 then (if (((((⟨#[80, 79, 83, 84, 32, 47]⟩ : ByteArray) ++ a0) ++ (⟨#[32, 72, 84, 84, 80, 47, 49, 46, 49, 13, 10, 72, 111, 115, 116, 58, 32, 104, 13, 10]⟩ : ByteArray)) ++ (⟨#[67, 111, 110, 116, 101, 110, 116, 45, 76, 101, 110, 103, 116, 104, 58, 32]⟩ : ByteArray)) ++ t412).size + 2 ≤ 9223372036854775807 then (if ((((((⟨#[80, 79, 83, 84, 32, 47]⟩ : ByteArray) ++ a0) ++ (⟨#[32, 72, 84, 84, 80, 47, 49, 46, 49, 13, 10, 72, 111, 115, 116, 58, 32, 104, 13, 10]⟩ : ByteArray)) ++ (⟨#[67, 111, 110, 116, 101, 110, 116, 45, 76, 101, 110, 103, 116, 104, 58, 32]⟩ : ByteArray)) ++ t412) ++ (⟨#[13, 10]⟩ : ByteArray)).size + t404.size ≤ 9223372036854775807 then (if (((((((⟨#[80, 79, 83, 84, 32, 47]⟩ : ByteArray) ++ a0) ++ (⟨#[32, 72, 84, 84, 80, 47, 49, 46, 49, 13, 10, 72, 111, 115, 116, 58, 32, 104, 13, 10]⟩ : ByteArray)) ++ (⟨#[67, 111, 110, 116, 101, 110, 116, 45, 76, 101, 110, 103, 116, 104, 58, 32]⟩ : ByteArray)) ++ t412) ++ (⟨#[13, 10]⟩ : ByteArray)) ++ t404).size + a2.size ≤ 9223372036854775807 then ((request_Parse.f ((((((((⟨#[80, 79, 83, 84, 32, 47]⟩ : ByteArray) ++ a0) ++ (⟨#[32, 72, 84, 84, 80, 47, 49, 46, 49, 13, 10, 72, 111, 115, 116, 58, 32, 104, 13, 10]⟩ : ByteArray)) ++ (⟨#[67, 111, 110, 116, 101, 110, 116, 45, 76, 101, 110, 103, 116, 104, 58, 32]⟩ : ByteArray)) ++ t412) ++ (⟨#[13, 10]⟩ : ByteArray)) ++ t404) ++ a2)).bind fun bt413 => ((broadsheetref19_Encode.f k2 a2 (wrap64 (1 + (wrap64 (a3))))).bind fun bt421 => (if (((⟨#[80, 79, 83, 84, 32, 47]⟩ : ByteArray) ++ a0) ++ (⟨#[32, 72, 84, 84, 80, 47, 49, 46, 49, 13, 10, 72, 111, 115, 116, 58, 32, 104, 13, 10]⟩ : ByteArray)).size + 28 ≤ 9223372036854775807 then (if ((((⟨#[80, 79, 83, 84, 32, 47]⟩ : ByteArray) ++ a0) ++ (⟨#[32, 72, 84, 84, 80, 47, 49, 46, 49, 13, 10, 72, 111, 115, 116, 58, 32, 104, 13, 10]⟩ : ByteArray)) ++ (⟨#[84, 114, 97, 110, 115, 102, 101, 114, 45, 69, 110, 99, 111, 100, 105, 110, 103, 58, 32, 67, 104, 117, 110, 107, 101, 100, 13, 10]⟩ : ByteArray)).size + t404.size ≤ 9223372036854775807 then (if (((((⟨#[80, 79, 83, 84, 32, 47]⟩ : ByteArray) ++ a0) ++ (⟨#[32, 72, 84, 84, 80, 47, 49, 46, 49, 13, 10, 72, 111, 115, 116, 58, 32, 104, 13, 10]⟩ : ByteArray)) ++ (⟨#[84, 114, 97, 110, 115, 102, 101, 114, 45, 69, 110, 99, 111, 100, 105, 110, 103, 58, 32, 67, 104, 117, 110, 107, 101, 100, 13, 10]⟩ : ByteArray)) ++ t404).size + bt421.1.size ≤ 9223372036854775807 then ((request_Parse.f ((((((⟨#[80, 79, 83, 84, 32, 47]⟩ : ByteArray) ++ a0) ++ (⟨#[32, 72, 84, 84, 80, 47, 49, 46, 49, 13, 10, 72, 111, 115, 116, 58, 32, 104, 13, 10]⟩ : ByteArray)) ++ (⟨#[84, 114, 97, 110, 115, 102, 101, 114, 45, 69, 110, 99, 111, 100, 105, 110, 103, 58, 32, 67, 104, 117, 110, 107, 101, 100, 13, 10]⟩ : ByteArray)) ++ t404) ++ bt421.1)).bind fun bt423 => (if bt413.2.2.2.2 = 0 then (if bt423.2.2.2.2 = 0 then (if (bt413.2.2.1.length : Int) = (wrap64 ((l1.length : Int) + 2)) then (broadsheetlaw20_RequestBack.j2 k2 a0 l1 a2 true ((bt423.2.2.1.length : Int) != (wrap64 ((l1.length : Int) + 2))) bt413.1 bt413.2.1 bt413.2.2.1 bt413.2.2.2.1 bt423.1 bt423.2.1 bt423.2.2.1 bt423.2.2.2.1) else (broadsheetlaw20_RequestBack.j2 k2 a0 l1 a2 true true bt413.1 bt413.2.1 bt413.2.2.1 bt413.2.2.2.1 bt423.1 bt423.2.1 bt423.2.2.1 bt423.2.2.2.1)) else (broadsheetlaw20_RequestBack.j2 k2 a0 l1 a2 true true bt413.1 bt413.2.1 bt413.2.2.1 bt413.2.2.2.1 bt423.1 bt423.2.1 bt423.2.2.1 bt423.2.2.2.1)) else (broadsheetlaw20_RequestBack.j2 k2 a0 l1 a2 true true bt413.1 bt413.2.1 bt413.2.2.1 bt413.2.2.2.1 bt423.1 bt423.2.1 bt423.2.2.1 bt423.2.2.2.1))) else (none)) else (none)) else (none)))) else (none)) else (none)) else (none)) else (none))) else (none)) else (none)) else (none))) = some r := H
        have A24 := Aside0.mk A240
        clear A240
        by_cases c25 : (wrap64 ((wrap64 (t407 + t409)) + t411)) > 0
        ·rw [if_pos c25] at H
         have c25b0 : decide (0 < (wrap64 ((wrap64 (t407 + t409)) + t411))) = true := decide_eq_true c25
         clear c25
         obtain rfl := Option.some.inj H
         go_wp2_with (first | (go_at_call 25; (with_reducible refine (broadsheetref18_Get.calls k2 _ _ l1 (⟨#[104, 111, 115, 116]⟩ : ByteArray) t406 t407 _ ?side1 ?side2 A22.out).mono ?_); (case side1 => repeat (first | exact (Kd.C_below HR1.out HB.out) | (with_reducible refine Kd.C_alloc ?_ _) | (with_reducible refine Kd.C_drewN ?_ _) | (with_reducible refine Kd.C_drew ?_))); (case side2 => exact HC1.out); rintro e w26 ⟨rfl, hb⟩; have n0_ := Aside0.mk (below_step zb0 hb); clear HB; have HB := n0_; clear n0_; (try clear hb); (try clear hb2); (try clear hk); (try clear hi)) | (go_at_call 25; (with_reducible refine (broadsheetref18_Get.calls k2 _ _ l1 (⟨#[99, 111, 110, 116, 101, 110, 116, 45, 108, 101, 110, 103, 116, 104]⟩ : ByteArray) t408 t409 _ ?side1 ?side2 A23.out).mono ?_); (case side1 => repeat (first | exact (Kd.C_below HR1.out HB.out) | (with_reducible refine Kd.C_alloc ?_ _) | (with_reducible refine Kd.C_drewN ?_ _) | (with_reducible refine Kd.C_drew ?_))); (case side2 => exact HC1.out); rintro e w27 ⟨rfl, hb⟩; have n0_ := Aside0.mk (below_step zb0 hb); clear HB; have HB := n0_; clear n0_; (try clear hb); (try clear hb2); (try clear hk); (try clear hi)) | (go_at_call 25; (with_reducible refine (broadsheetref18_Get.calls k2 _ _ l1 (⟨#[116, 114, 97, 110, 115, 102, 101, 114, 45, 101, 110, 99, 111, 100, 105, 110, 103]⟩ : ByteArray) t410 t411 _ ?side1 ?side2 A24.out).mono ?_); (case side1 => repeat (first | exact (Kd.C_below HR1.out HB.out) | (with_reducible refine Kd.C_alloc ?_ _) | (with_reducible refine Kd.C_drewN ?_ _) | (with_reducible refine Kd.C_drew ?_))); (case side2 => exact HC1.out); rintro e w28 ⟨rfl, hb⟩; have n0_ := Aside0.mk (below_step zb0 hb); clear HB; have HB := n0_; clear n0_; (try clear hb); (try clear hb2); (try clear hk); (try clear hi)))
         repeat (go_quiet (first | (go_at_call 25; (with_reducible refine (broadsheetref18_Get.calls k2 _ _ l1 (⟨#[104, 111, 115, 116]⟩ : ByteArray) t406 t407 _ ?side1 ?side2 A22.out).mono ?_); (case side1 => repeat (first | exact (Kd.C_below HR1.out HB.out) | (with_reducible refine Kd.C_alloc ?_ _) | (with_reducible refine Kd.C_drewN ?_ _) | (with_reducible refine Kd.C_drew ?_))); (case side2 => exact HC1.out); rintro e w26 ⟨rfl, hb⟩; have n0_ := Aside0.mk (below_step zb0 hb); clear HB; have HB := n0_; clear n0_; (try clear hb); (try clear hb2); (try clear hk); (try clear hi)) | (go_at_call 25; (with_reducible refine (broadsheetref18_Get.calls k2 _ _ l1 (⟨#[99, 111, 110, 116, 101, 110, 116, 45, 108, 101, 110, 103, 116, 104]⟩ : ByteArray) t408 t409 _ ?side1 ?side2 A23.out).mono ?_); (case side1 => repeat (first | exact (Kd.C_below HR1.out HB.out) | (with_reducible refine Kd.C_alloc ?_ _) | (with_reducible refine Kd.C_drewN ?_ _) | (with_reducible refine Kd.C_drew ?_))); (case side2 => exact HC1.out); rintro e w27 ⟨rfl, hb⟩; have n0_ := Aside0.mk (below_step zb0 hb); clear HB; have HB := n0_; clear n0_; (try clear hb); (try clear hb2); (try clear hk); (try clear hi)) | (go_at_call 25; (with_reducible refine (broadsheetref18_Get.calls k2 _ _ l1 (⟨#[116, 114, 97, 110, 115, 102, 101, 114, 45, 101, 110, 99, 111, 100, 105, 110, 103]⟩ : ByteArray) t410 t411 _ ?side1 ?side2 A24.out).mono ?_); (case side1 => repeat (first | exact (Kd.C_below HR1.out HB.out) | (with_reducible refine Kd.C_alloc ?_ _) | (with_reducible refine Kd.C_drewN ?_ _) | (with_reducible refine Kd.C_drew ?_))); (case side2 => exact HC1.out); rintro e w28 ⟨rfl, hb⟩; have n0_ := Aside0.mk (below_step zb0 hb); clear HB; have HB := n0_; clear n0_; (try clear hb); (try clear hb2); (try clear hk); (try clear hi))); try go_wp2_with (first | (go_at_call 25; (with_reducible refine (broadsheetref18_Get.calls k2 _ _ l1 (⟨#[104, 111, 115, 116]⟩ : ByteArray) t406 t407 _ ?side1 ?side2 A22.out).mono ?_); (case side1 => repeat (first | exact (Kd.C_below HR1.out HB.out) | (with_reducible refine Kd.C_alloc ?_ _) | (with_reducible refine Kd.C_drewN ?_ _) | (with_reducible refine Kd.C_drew ?_))); (case side2 => exact HC1.out); rintro e w26 ⟨rfl, hb⟩; have n0_ := Aside0.mk (below_step zb0 hb); clear HB; have HB := n0_; clear n0_; (try clear hb); (try clear hb2); (try clear hk); (try clear hi)) | (go_at_call 25; (with_reducible refine (broadsheetref18_Get.calls k2 _ _ l1 (⟨#[99, 111, 110, 116, 101, 110, 116, 45, 108, 101, 110, 103, 116, 104]⟩ : ByteArray) t408 t409 _ ?side1 ?side2 A23.out).mono ?_); (case side1 => repeat (first | exact (Kd.C_below HR1.out HB.out) | (with_reducible refine Kd.C_alloc ?_ _) | (with_reducible refine Kd.C_drewN ?_ _) | (with_reducible refine Kd.C_drew ?_))); (case side2 => exact HC1.out); rintro e w27 ⟨rfl, hb⟩; have n0_ := Aside0.mk (below_step zb0 hb); clear HB; have HB := n0_; clear n0_; (try clear hb); (try clear hb2); (try clear hk); (try clear hi)) | (go_at_call 25; (with_reducible refine (broadsheetref18_Get.calls k2 _ _ l1 (⟨#[116, 114, 97, 110, 115, 102, 101, 114, 45, 101, 110, 99, 111, 100, 105, 110, 103]⟩ : ByteArray) t410 t411 _ ?side1 ?side2 A24.out).mono ?_); (case side1 => repeat (first | exact (Kd.C_below HR1.out HB.out) | (with_reducible refine Kd.C_alloc ?_ _) | (with_reducible refine Kd.C_drewN ?_ _) | (with_reducible refine Kd.C_drew ?_))); (case side2 => exact HC1.out); rintro e w28 ⟨rfl, hb⟩; have n0_ := Aside0.mk (below_step zb0 hb); clear HB; have HB := n0_; clear n0_; (try clear hb); (try clear hb2); (try clear hk); (try clear hi))))
         go_ret
         exact ⟨zb4, zb0⟩
        ·rw [if_neg c25] at H
         have c25b0 : decide (0 < (wrap64 ((wrap64 (t407 + t409)) + t411))) = false := decide_eq_false c25
         clear c25
         by_cases c29 : 6 + a0.size ≤ 9223372036854775807
         ·rw [if_pos c29] at H
          have c29b0 := eq_true c29
          have c29b1 : decide (6 + a0.size ≤ 9223372036854775807) = true := decide_eq_true c29
          try have c29b2 : (9223372036854775807 < 6 + a0.size) = False := eq_false (Nat.not_lt.2 c29)
          by_cases c30 : ((⟨#[80, 79, 83, 84, 32, 47]⟩ : ByteArray) ++ a0).size + 20 ≤ 9223372036854775807
          ·rw [if_pos c30] at H
           have c30b0 := eq_true c30
           have c30b1 : decide (((⟨#[80, 79, 83, 84, 32, 47]⟩ : ByteArray) ++ a0).size + 20 ≤ 9223372036854775807) = true := decide_eq_true c30
           try have c30b2 : (9223372036854775807 < ((⟨#[80, 79, 83, 84, 32, 47]⟩ : ByteArray) ++ a0).size + 20) = False := eq_false (Nat.not_lt.2 c30)
           obtain ⟨nc30, hc30⟩ : ∃ n_ : Nat, n_ = ((⟨#[80, 79, 83, 84, 32, 47]⟩ : ByteArray) ++ a0).size + 20 := ⟨_, rfl⟩
           have c30m0 : nc30 ≤ 9223372036854775807 := by rw [hc30]; exact c30
           (first | simp [go_sem, c29b0] at hc30 | simp [go_sem] at hc30 | skip)
           rw [hc30] at c30m0
           have c30m1 := eq_false (Nat.not_lt.2 c30m0)
           have c30m2 := decide_eq_true c30m0
           clear hc30 c30m0
           by_cases c31 : (((⟨#[80, 79, 83, 84, 32, 47]⟩ : ByteArray) ++ a0) ++ (⟨#[32, 72, 84, 84, 80, 47, 49, 46, 49, 13, 10, 72, 111, 115, 116, 58, 32, 104, 13, 10]⟩ : ByteArray)).size + 16 ≤ 9223372036854775807
           ·rw [if_pos c31] at H
            have c31b0 := eq_true c31
            have c31b1 : decide ((((⟨#[80, 79, 83, 84, 32, 47]⟩ : ByteArray) ++ a0) ++ (⟨#[32, 72, 84, 84, 80, 47, 49, 46, 49, 13, 10, 72, 111, 115, 116, 58, 32, 104, 13, 10]⟩ : ByteArray)).size + 16 ≤ 9223372036854775807) = true := decide_eq_true c31
            try have c31b2 : (9223372036854775807 < (((⟨#[80, 79, 83, 84, 32, 47]⟩ : ByteArray) ++ a0) ++ (⟨#[32, 72, 84, 84, 80, 47, 49, 46, 49, 13, 10, 72, 111, 115, 116, 58, 32, 104, 13, 10]⟩ : ByteArray)).size + 16) = False := eq_false (Nat.not_lt.2 c31)
            obtain ⟨nc31, hc31⟩ : ∃ n_ : Nat, n_ = (((⟨#[80, 79, 83, 84, 32, 47]⟩ : ByteArray) ++ a0) ++ (⟨#[32, 72, 84, 84, 80, 47, 49, 46, 49, 13, 10, 72, 111, 115, 116, 58, 32, 104, 13, 10]⟩ : ByteArray)).size + 16 := ⟨_, rfl⟩
            have c31m0 : nc31 ≤ 9223372036854775807 := by rw [hc31]; exact c31
            (first | simp [go_sem, c29b0, c30b0] at hc31 | simp [go_sem] at hc31 | skip)
            rw [hc31] at c31m0
            have c31m1 := eq_false (Nat.not_lt.2 c31m0)
            have c31m2 := decide_eq_true c31m0
            clear hc31 c31m0
            replace H := Option.bind_eq_some_iff.mp H
            obtain ⟨t412, A320, H⟩ := H
            replace H : (if ((((⟨#[80, 79, 83, 84, 32, 47]⟩ : ByteArray) ++ a0) ++ (⟨#[32, 72, 84, 84, 80, 47, 49, 46, 49, 13, 10, 72, 111, 115, 116, 58, 32, 104, 13, 10]⟩ : ByteArray)) ++ (⟨#[67, 111, 110, 116, 101, 110, 116, 45, 76, 101, 110, 103, 116, 104, 58, 32]⟩ : ByteArray)).size + t412.size ≤ 9223372036854775807 then (if (((((⟨#[80, 79, 83, 84, 32, 47]⟩ : ByteArray) ++ a0) ++ (⟨#[32, 72, 84, 84, 80, 47, 49, 46, 49, 13, 10, 72, 111, 115, 116, 58, 32, 104, 13, 10]⟩ : ByteArray)) ++ (⟨#[67, 111, 110, 116, 101, 110, 116, 45, 76, 101, 110, 103, 116, 104, 58, 32]⟩ : ByteArray)) ++ t412).size + 2 ≤ 9223372036854775807 then (if ((((((⟨#[80, 79, 83, 84, 32, 47]⟩ : ByteArray) ++ a0) ++ (⟨#[32, 72, 84, 84, 80, 47, 49, 46, 49, 13, 10, 72, 111, 115, 116, 58, 32, 104, 13, 10]⟩ : ByteArray)) ++ (⟨#[67, 111, 110, 116, 101, 110, 116, 45, 76, 101, 110, 103, 116, 104, 58, 32]⟩ : ByteArray)) ++ t412) ++ (⟨#[13, 10]⟩ : ByteArray)).size + t404.size ≤ 9223372036854775807 then (if (((((((⟨#[80, 79, 83, 84, 32, 47]⟩ : ByteArray) ++ a0) ++ (⟨#[32, 72, 84, 84, 80, 47, 49, 46, 49, 13, 10, 72, 111, 115, 116, 58, 32, 104, 13, 10]⟩ : ByteArray)) ++ (⟨#[67, 111, 110, 116, 101, 110, 116, 45, 76, 101, 110, 103, 116, 104, 58, 32]⟩ : ByteArray)) ++ t412) ++ (⟨#[13, 10]⟩ : ByteArray)) ++ t404).size + a2.size ≤ 9223372036854775807 then ((request_Parse.f ((((((((⟨#[80, 79, 83, 84, 32, 47]⟩ : ByteArray) ++ a0) ++ (⟨#[32, 72, 84, 84, 80, 47, 49, 46, 49, 13, 10, 72, 111, 115, 116, 58, 32, 104, 13, 10]⟩ : ByteArray)) ++ (⟨#[67, 111, 110, 116, 101, 110, 116, 45, 76, 101, 110, 103, 116, 104, 58, 32]⟩ : ByteArray)) ++ t412) ++ (⟨#[13, 10]⟩ : ByteArray)) ++ t404) ++ a2)).bind fun bt413 => ((broadsheetref19_Encode.f k2 a2 (wrap64 (1 + (wrap64 (a3))))).bind fun bt421 => (if (((⟨#[80, 79, 83, 84, 32, 47]⟩ : ByteArray) ++ a0) ++ (⟨#[32, 72, 84, 84, 80, 47, 49, 46, 49, 13, 10, 72, 111, 115, 116, 58, 32, 104, 13, 10]⟩ : ByteArray)).size + 28 ≤ 9223372036854775807 then (if ((((⟨#[80, 79, 83, 84, 32, 47]⟩ : ByteArray) ++ a0) ++ (⟨#[32, 72, 84, 84, 80, 47, 49, 46, 49, 13, 10, 72, 111, 115, 116, 58, 32, 104, 13, 10]⟩ : ByteArray)) ++ (⟨#[84, 114, 97, 110, 115, 102, 101, 114, 45, 69, 110, 99, 111, 100, 105, 110, 103, 58, 32, 67, 104, 117, 110, 107, 101, 100, 13, 10]⟩ : ByteArray)).size + t404.size ≤ 9223372036854775807 then (if (((((⟨#[80, 79, 83, 84, 32, 47]⟩ : ByteArray) ++ a0) ++ (⟨#[32, 72, 84, 84, 80, 47, 49, 46, 49, 13, 10, 72, 111, 115, 116, 58, 32, 104, 13, 10]⟩ : ByteArray)) ++ (⟨#[84, 114, 97, 110, 115, 102, 101, 114, 45, 69, 110, 99, 111, 100, 105, 110, 103, 58, 32, 67, 104, 117, 110, 107, 101, 100, 13, 10]⟩ : ByteArray)) ++ t404).size + bt421.1.size ≤ 9223372036854775807 then ((request_Parse.f ((((((⟨#[80, 79, 83, 84, 32, 47]⟩ : ByteArray) ++ a0) ++ (⟨#[32, 72, 84, 84, 80, 47, 49, 46, 49, 13, 10, 72, 111, 115, 116, 58, 32, 104, 13, 10]⟩ : ByteArray)) ++ (⟨#[84, 114, 97, 110, 115, 102, 101, 114, 45, 69, 110, 99, 111, 100, 105, 110, 103, 58, 32, 67, 104, 117, 110, 107, 101, 100, 13, 10]⟩ : ByteArray)) ++ t404) ++ bt421.1)).bind fun bt423 => (if bt413.2.2.2.2 = 0 then (if bt423.2.2.2.2 = 0 then (if (bt413.2.2.1.length : Int) = (wrap64 ((l1.length : Int) + 2)) then (broadsheetlaw20_RequestBack.j2 k2 a0 l1 a2 true ((bt423.2.2.1.length : Int) != (wrap64 ((l1.length : Int) + 2))) bt413.1 bt413.2.1 bt413.2.2.1 bt413.2.2.2.1 bt423.1 bt423.2.1 bt423.2.2.1 bt423.2.2.2.1) else (broadsheetlaw20_RequestBack.j2 k2 a0 l1 a2 true true bt413.1 bt413.2.1 bt413.2.2.1 bt413.2.2.2.1 bt423.1 bt423.2.1 bt423.2.2.1 bt423.2.2.2.1)) else (broadsheetlaw20_RequestBack.j2 k2 a0 l1 a2 true true bt413.1 bt413.2.1 bt413.2.2.1 bt413.2.2.2.1 bt423.1 bt423.2.1 bt423.2.2.1 bt423.2.2.2.1)) else (broadsheetlaw20_RequestBack.j2 k2 a0 l1 a2 true true bt413.1 bt413.2.1 bt413.2.2.1 bt413.2.2.2.1 bt423.1 bt423.2.1 bt423.2.2.1 bt423.2.2.2.1))) else (none)) else (none)) else (none)))) else (none)) else (none)) else (none)) else (none)) = some r := H
            have A32 := Aside0.mk A320
            clear A320
            by_cases c33 : ((((⟨#[80, 79, 83, 84, 32, 47]⟩ : ByteArray) ++ a0) ++ (⟨#[32, 72, 84, 84, 80, 47, 49, 46, 49, 13, 10, 72, 111, 115, 116, 58, 32, 104, 13, 10]⟩ : ByteArray)) ++ (⟨#[67, 111, 110, 116, 101, 110, 116, 45, 76, 101, 110, 103, 116, 104, 58, 32]⟩ : ByteArray)).size + t412.size ≤ 9223372036854775807
            ·rw [if_pos c33] at H
             have c33b0 := eq_true c33
             have c33b1 : decide (((((⟨#[80, 79, 83, 84, 32, 47]⟩ : ByteArray) ++ a0) ++ (⟨#[32, 72, 84, 84, 80, 47, 49, 46, 49, 13, 10, 72, 111, 115, 116, 58, 32, 104, 13, 10]⟩ : ByteArray)) ++ (⟨#[67, 111, 110, 116, 101, 110, 116, 45, 76, 101, 110, 103, 116, 104, 58, 32]⟩ : ByteArray)).size + t412.size ≤ 9223372036854775807) = true := decide_eq_true c33
             try have c33b2 : (9223372036854775807 < ((((⟨#[80, 79, 83, 84, 32, 47]⟩ : ByteArray) ++ a0) ++ (⟨#[32, 72, 84, 84, 80, 47, 49, 46, 49, 13, 10, 72, 111, 115, 116, 58, 32, 104, 13, 10]⟩ : ByteArray)) ++ (⟨#[67, 111, 110, 116, 101, 110, 116, 45, 76, 101, 110, 103, 116, 104, 58, 32]⟩ : ByteArray)).size + t412.size) = False := eq_false (Nat.not_lt.2 c33)
             obtain ⟨nc33, hc33⟩ : ∃ n_ : Nat, n_ = ((((⟨#[80, 79, 83, 84, 32, 47]⟩ : ByteArray) ++ a0) ++ (⟨#[32, 72, 84, 84, 80, 47, 49, 46, 49, 13, 10, 72, 111, 115, 116, 58, 32, 104, 13, 10]⟩ : ByteArray)) ++ (⟨#[67, 111, 110, 116, 101, 110, 116, 45, 76, 101, 110, 103, 116, 104, 58, 32]⟩ : ByteArray)).size + t412.size := ⟨_, rfl⟩
             have c33m0 : nc33 ≤ 9223372036854775807 := by rw [hc33]; exact c33
             (first | simp [go_sem, c29b0, c30b0, c31b0] at hc33 | simp [go_sem] at hc33 | skip)
             rw [hc33] at c33m0
             have c33m1 := eq_false (Nat.not_lt.2 c33m0)
             have c33m2 := decide_eq_true c33m0
             clear hc33 c33m0
             by_cases c34 : (((((⟨#[80, 79, 83, 84, 32, 47]⟩ : ByteArray) ++ a0) ++ (⟨#[32, 72, 84, 84, 80, 47, 49, 46, 49, 13, 10, 72, 111, 115, 116, 58, 32, 104, 13, 10]⟩ : ByteArray)) ++ (⟨#[67, 111, 110, 116, 101, 110, 116, 45, 76, 101, 110, 103, 116, 104, 58, 32]⟩ : ByteArray)) ++ t412).size + 2 ≤ 9223372036854775807
             ·rw [if_pos c34] at H
              have c34b0 := eq_true c34
              have c34b1 : decide ((((((⟨#[80, 79, 83, 84, 32, 47]⟩ : ByteArray) ++ a0) ++ (⟨#[32, 72, 84, 84, 80, 47, 49, 46, 49, 13, 10, 72, 111, 115, 116, 58, 32, 104, 13, 10]⟩ : ByteArray)) ++ (⟨#[67, 111, 110, 116, 101, 110, 116, 45, 76, 101, 110, 103, 116, 104, 58, 32]⟩ : ByteArray)) ++ t412).size + 2 ≤ 9223372036854775807) = true := decide_eq_true c34
              try have c34b2 : (9223372036854775807 < (((((⟨#[80, 79, 83, 84, 32, 47]⟩ : ByteArray) ++ a0) ++ (⟨#[32, 72, 84, 84, 80, 47, 49, 46, 49, 13, 10, 72, 111, 115, 116, 58, 32, 104, 13, 10]⟩ : ByteArray)) ++ (⟨#[67, 111, 110, 116, 101, 110, 116, 45, 76, 101, 110, 103, 116, 104, 58, 32]⟩ : ByteArray)) ++ t412).size + 2) = False := eq_false (Nat.not_lt.2 c34)
              obtain ⟨nc34, hc34⟩ : ∃ n_ : Nat, n_ = (((((⟨#[80, 79, 83, 84, 32, 47]⟩ : ByteArray) ++ a0) ++ (⟨#[32, 72, 84, 84, 80, 47, 49, 46, 49, 13, 10, 72, 111, 115, 116, 58, 32, 104, 13, 10]⟩ : ByteArray)) ++ (⟨#[67, 111, 110, 116, 101, 110, 116, 45, 76, 101, 110, 103, 116, 104, 58, 32]⟩ : ByteArray)) ++ t412).size + 2 := ⟨_, rfl⟩
              have c34m0 : nc34 ≤ 9223372036854775807 := by rw [hc34]; exact c34
              (first | simp [go_sem, c29b0, c30b0, c31b0, c33b0] at hc34 | simp [go_sem] at hc34 | skip)
              rw [hc34] at c34m0
              have c34m1 := eq_false (Nat.not_lt.2 c34m0)
              have c34m2 := decide_eq_true c34m0
              clear hc34 c34m0
              by_cases c35 : ((((((⟨#[80, 79, 83, 84, 32, 47]⟩ : ByteArray) ++ a0) ++ (⟨#[32, 72, 84, 84, 80, 47, 49, 46, 49, 13, 10, 72, 111, 115, 116, 58, 32, 104, 13, 10]⟩ : ByteArray)) ++ (⟨#[67, 111, 110, 116, 101, 110, 116, 45, 76, 101, 110, 103, 116, 104, 58, 32]⟩ : ByteArray)) ++ t412) ++ (⟨#[13, 10]⟩ : ByteArray)).size + t404.size ≤ 9223372036854775807
              ·rw [if_pos c35] at H
               have c35b0 := eq_true c35
               have c35b1 : decide (((((((⟨#[80, 79, 83, 84, 32, 47]⟩ : ByteArray) ++ a0) ++ (⟨#[32, 72, 84, 84, 80, 47, 49, 46, 49, 13, 10, 72, 111, 115, 116, 58, 32, 104, 13, 10]⟩ : ByteArray)) ++ (⟨#[67, 111, 110, 116, 101, 110, 116, 45, 76, 101, 110, 103, 116, 104, 58, 32]⟩ : ByteArray)) ++ t412) ++ (⟨#[13, 10]⟩ : ByteArray)).size + t404.size ≤ 9223372036854775807) = true := decide_eq_true c35
               try have c35b2 : (9223372036854775807 < ((((((⟨#[80, 79, 83, 84, 32, 47]⟩ : ByteArray) ++ a0) ++ (⟨#[32, 72, 84, 84, 80, 47, 49, 46, 49, 13, 10, 72, 111, 115, 116, 58, 32, 104, 13, 10]⟩ : ByteArray)) ++ (⟨#[67, 111, 110, 116, 101, 110, 116, 45, 76, 101, 110, 103, 116, 104, 58, 32]⟩ : ByteArray)) ++ t412) ++ (⟨#[13, 10]⟩ : ByteArray)).size + t404.size) = False := eq_false (Nat.not_lt.2 c35)
               obtain ⟨nc35, hc35⟩ : ∃ n_ : Nat, n_ = ((((((⟨#[80, 79, 83, 84, 32, 47]⟩ : ByteArray) ++ a0) ++ (⟨#[32, 72, 84, 84, 80, 47, 49, 46, 49, 13, 10, 72, 111, 115, 116, 58, 32, 104, 13, 10]⟩ : ByteArray)) ++ (⟨#[67, 111, 110, 116, 101, 110, 116, 45, 76, 101, 110, 103, 116, 104, 58, 32]⟩ : ByteArray)) ++ t412) ++ (⟨#[13, 10]⟩ : ByteArray)).size + t404.size := ⟨_, rfl⟩
               have c35m0 : nc35 ≤ 9223372036854775807 := by rw [hc35]; exact c35
               (first | simp [go_sem, c29b0, c30b0, c31b0, c33b0, c34b0] at hc35 | simp [go_sem] at hc35 | skip)
               rw [hc35] at c35m0
               have c35m1 := eq_false (Nat.not_lt.2 c35m0)
               have c35m2 := decide_eq_true c35m0
               clear hc35 c35m0
               by_cases c36 : (((((((⟨#[80, 79, 83, 84, 32, 47]⟩ : ByteArray) ++ a0) ++ (⟨#[32, 72, 84, 84, 80, 47, 49, 46, 49, 13, 10, 72, 111, 115, 116, 58, 32, 104, 13, 10]⟩ : ByteArray)) ++ (⟨#[67, 111, 110, 116, 101, 110, 116, 45, 76, 101, 110, 103, 116, 104, 58, 32]⟩ : ByteArray)) ++ t412) ++ (⟨#[13, 10]⟩ : ByteArray)) ++ t404).size + a2.size ≤ 9223372036854775807
               ·rw [if_pos c36] at H
                have c36b0 := eq_true c36
                have c36b1 : decide ((((((((⟨#[80, 79, 83, 84, 32, 47]⟩ : ByteArray) ++ a0) ++ (⟨#[32, 72, 84, 84, 80, 47, 49, 46, 49, 13, 10, 72, 111, 115, 116, 58, 32, 104, 13, 10]⟩ : ByteArray)) ++ (⟨#[67, 111, 110, 116, 101, 110, 116, 45, 76, 101, 110, 103, 116, 104, 58, 32]⟩ : ByteArray)) ++ t412) ++ (⟨#[13, 10]⟩ : ByteArray)) ++ t404).size + a2.size ≤ 9223372036854775807) = true := decide_eq_true c36
                try have c36b2 : (9223372036854775807 < (((((((⟨#[80, 79, 83, 84, 32, 47]⟩ : ByteArray) ++ a0) ++ (⟨#[32, 72, 84, 84, 80, 47, 49, 46, 49, 13, 10, 72, 111, 115, 116, 58, 32, 104, 13, 10]⟩ : ByteArray)) ++ (⟨#[67, 111, 110, 116, 101, 110, 116, 45, 76, 101, 110, 103, 116, 104, 58, 32]⟩ : ByteArray)) ++ t412) ++ (⟨#[13, 10]⟩ : ByteArray)) ++ t404).size + a2.size) = False := eq_false (Nat.not_lt.2 c36)
                obtain ⟨nc36, hc36⟩ : ∃ n_ : Nat, n_ = (((((((⟨#[80, 79, 83, 84, 32, 47]⟩ : ByteArray) ++ a0) ++ (⟨#[32, 72, 84, 84, 80, 47, 49, 46, 49, 13, 10, 72, 111, 115, 116, 58, 32, 104, 13, 10]⟩ : ByteArray)) ++ (⟨#[67, 111, 110, 116, 101, 110, 116, 45, 76, 101, 110, 103, 116, 104, 58, 32]⟩ : ByteArray)) ++ t412) ++ (⟨#[13, 10]⟩ : ByteArray)) ++ t404).size + a2.size := ⟨_, rfl⟩
                have c36m0 : nc36 ≤ 9223372036854775807 := by rw [hc36]; exact c36
                (first | simp [go_sem, c29b0, c30b0, c31b0, c33b0, c34b0, c35b0] at hc36 | simp [go_sem] at hc36 | skip)
                rw [hc36] at c36m0
                have c36m1 := eq_false (Nat.not_lt.2 c36m0)
                have c36m2 := decide_eq_true c36m0
                clear hc36 c36m0
                replace H := Option.bind_eq_some_iff.mp H
                obtain ⟨⟨t413, t414, t415, t418, t419⟩, A370, H⟩ := H
                replace H : ((broadsheetref19_Encode.f k2 a2 (wrap64 (1 + (wrap64 (a3))))).bind fun bt421 => (if (((⟨#[80, 79, 83, 84, 32, 47]⟩ : ByteArray) ++ a0) ++ (⟨#[32, 72, 84, 84, 80, 47, 49, 46, 49, 13, 10, 72, 111, 115, 116, 58, 32, 104, 13, 10]⟩ : ByteArray)).size + 28 ≤ 9223372036854775807 then (if ((((⟨#[80, 79, 83, 84, 32, 47]⟩ : ByteArray) ++ a0) ++ (⟨#[32, 72, 84, 84, 80, 47, 49, 46, 49, 13, 10, 72, 111, 115, 116, 58, 32, 104, 13, 10]⟩ : ByteArray)) ++ (⟨#[84, 114, 97, 110, 115, 102, 101, 114, 45, 69, 110, 99, 111, 100, 105, 110, 103, 58, 32, 67, 104, 117, 110, 107, 101, 100, 13, 10]⟩ : ByteArray)).size + t404.size ≤ 9223372036854775807 then (if (((((⟨#[80, 79, 83, 84, 32, 47]⟩ : ByteArray) ++ a0) ++ (⟨#[32, 72, 84, 84, 80, 47, 49, 46, 49, 13, 10, 72, 111, 115, 116, 58, 32, 104, 13, 10]⟩ : ByteArray)) ++ (⟨#[84, 114, 97, 110, 115, 102, 101, 114, 45, 69, 110, 99, 111, 100, 105, 110, 103, 58, 32, 67, 104, 117, 110, 107, 101, 100, 13, 10]⟩ : ByteArray)) ++ t404).size + bt421.1.size ≤ 9223372036854775807 then ((request_Parse.f ((((((⟨#[80, 79, 83, 84, 32, 47]⟩ : ByteArray) ++ a0) ++ (⟨#[32, 72, 84, 84, 80, 47, 49, 46, 49, 13, 10, 72, 111, 115, 116, 58, 32, 104, 13, 10]⟩ : ByteArray)) ++ (⟨#[84, 114, 97, 110, 115, 102, 101, 114, 45, 69, 110, 99, 111, 100, 105, 110, 103, 58, 32, 67, 104, 117, 110, 107, 101, 100, 13, 10]⟩ : ByteArray)) ++ t404) ++ bt421.1)).bind fun bt423 => (if t419 = 0 then (if bt423.2.2.2.2 = 0 then (if (t415.length : Int) = (wrap64 ((l1.length : Int) + 2)) then (broadsheetlaw20_RequestBack.j2 k2 a0 l1 a2 true ((bt423.2.2.1.length : Int) != (wrap64 ((l1.length : Int) + 2))) t413 t414 t415 t418 bt423.1 bt423.2.1 bt423.2.2.1 bt423.2.2.2.1) else (broadsheetlaw20_RequestBack.j2 k2 a0 l1 a2 true true t413 t414 t415 t418 bt423.1 bt423.2.1 bt423.2.2.1 bt423.2.2.2.1)) else (broadsheetlaw20_RequestBack.j2 k2 a0 l1 a2 true true t413 t414 t415 t418 bt423.1 bt423.2.1 bt423.2.2.1 bt423.2.2.2.1)) else (broadsheetlaw20_RequestBack.j2 k2 a0 l1 a2 true true t413 t414 t415 t418 bt423.1 bt423.2.1 bt423.2.2.1 bt423.2.2.2.1))) else (none)) else (none)) else (none))) = some r := H
                have A37 := Aside0.mk A370
                clear A370
                replace H := Option.bind_eq_some_iff.mp H
                obtain ⟨⟨t421, t422⟩, A380, H⟩ := H
                replace H : (if (((⟨#[80, 79, 83, 84, 32, 47]⟩ : ByteArray) ++ a0) ++ (⟨#[32, 72, 84, 84, 80, 47, 49, 46, 49, 13, 10, 72, 111, 115, 116, 58, 32, 104, 13, 10]⟩ : ByteArray)).size + 28 ≤ 9223372036854775807 then (if ((((⟨#[80, 79, 83, 84, 32, 47]⟩ : ByteArray) ++ a0) ++ (⟨#[32, 72, 84, 84, 80, 47, 49, 46, 49, 13, 10, 72, 111, 115, 116, 58, 32, 104, 13, 10]⟩ : ByteArray)) ++ (⟨#[84, 114, 97, 110, 115, 102, 101, 114, 45, 69, 110, 99, 111, 100, 105, 110, 103, 58, 32, 67, 104, 117, 110, 107, 101, 100, 13, 10]⟩ : ByteArray)).size + t404.size ≤ 9223372036854775807 then (if (((((⟨#[80, 79, 83, 84, 32, 47]⟩ : ByteArray) ++ a0) ++ (⟨#[32, 72, 84, 84, 80, 47, 49, 46, 49, 13, 10, 72, 111, 115, 116, 58, 32, 104, 13, 10]⟩ : ByteArray)) ++ (⟨#[84, 114, 97, 110, 115, 102, 101, 114, 45, 69, 110, 99, 111, 100, 105, 110, 103, 58, 32, 67, 104, 117, 110, 107, 101, 100, 13, 10]⟩ : ByteArray)) ++ t404).size + t421.size ≤ 9223372036854775807 then ((request_Parse.f ((((((⟨#[80, 79, 83, 84, 32, 47]⟩ : ByteArray) ++ a0) ++ (⟨#[32, 72, 84, 84, 80, 47, 49, 46, 49, 13, 10, 72, 111, 115, 116, 58, 32, 104, 13, 10]⟩ : ByteArray)) ++ (⟨#[84, 114, 97, 110, 115, 102, 101, 114, 45, 69, 110, 99, 111, 100, 105, 110, 103, 58, 32, 67, 104, 117, 110, 107, 101, 100, 13, 10]⟩ : ByteArray)) ++ t404) ++ t421)).bind fun bt423 => (if t419 = 0 then (if bt423.2.2.2.2 = 0 then (if (t415.length : Int) = (wrap64 ((l1.length : Int) + 2)) then (broadsheetlaw20_RequestBack.j2 k2 a0 l1 a2 true ((bt423.2.2.1.length : Int) != (wrap64 ((l1.length : Int) + 2))) t413 t414 t415 t418 bt423.1 bt423.2.1 bt423.2.2.1 bt423.2.2.2.1) else (broadsheetlaw20_RequestBack.j2 k2 a0 l1 a2 true true t413 t414 t415 t418 bt423.1 bt423.2.1 bt423.2.2.1 bt423.2.2.2.1)) else (broadsheetlaw20_RequestBack.j2 k2 a0 l1 a2 true true t413 t414 t415 t418 bt423.1 bt423.2.1 bt423.2.2.1 bt423.2.2.2.1)) else (broadsheetlaw20_RequestBack.j2 k2 a0 l1 a2 true true t413 t414 t415 t418 bt423.1 bt423.2.1 bt423.2.2.1 bt423.2.2.2.1))) else (none)) else (none)) else (none)) = some r := H
                have A38 := Aside0.mk A380
                clear A380
                by_cases c39 : (((⟨#[80, 79, 83, 84, 32, 47]⟩ : ByteArray) ++ a0) ++ (⟨#[32, 72, 84, 84, 80, 47, 49, 46, 49, 13, 10, 72, 111, 115, 116, 58, 32, 104, 13, 10]⟩ : ByteArray)).size + 28 ≤ 9223372036854775807
                ·rw [if_pos c39] at H
                 have c39b0 := eq_true c39
                 have c39b1 : decide ((((⟨#[80, 79, 83, 84, 32, 47]⟩ : ByteArray) ++ a0) ++ (⟨#[32, 72, 84, 84, 80, 47, 49, 46, 49, 13, 10, 72, 111, 115, 116, 58, 32, 104, 13, 10]⟩ : ByteArray)).size + 28 ≤ 9223372036854775807) = true := decide_eq_true c39
                 try have c39b2 : (9223372036854775807 < (((⟨#[80, 79, 83, 84, 32, 47]⟩ : ByteArray) ++ a0) ++ (⟨#[32, 72, 84, 84, 80, 47, 49, 46, 49, 13, 10, 72, 111, 115, 116, 58, 32, 104, 13, 10]⟩ : ByteArray)).size + 28) = False := eq_false (Nat.not_lt.2 c39)
                 obtain ⟨nc39, hc39⟩ : ∃ n_ : Nat, n_ = (((⟨#[80, 79, 83, 84, 32, 47]⟩ : ByteArray) ++ a0) ++ (⟨#[32, 72, 84, 84, 80, 47, 49, 46, 49, 13, 10, 72, 111, 115, 116, 58, 32, 104, 13, 10]⟩ : ByteArray)).size + 28 := ⟨_, rfl⟩
                 have c39m0 : nc39 ≤ 9223372036854775807 := by rw [hc39]; exact c39
                 (first | simp [go_sem, c29b0, c30b0, c31b0, c33b0, c34b0, c35b0, c36b0] at hc39 | simp [go_sem] at hc39 | skip)
                 rw [hc39] at c39m0
                 have c39m1 := eq_false (Nat.not_lt.2 c39m0)
                 have c39m2 := decide_eq_true c39m0
                 clear hc39 c39m0
                 by_cases c40 : ((((⟨#[80, 79, 83, 84, 32, 47]⟩ : ByteArray) ++ a0) ++ (⟨#[32, 72, 84, 84, 80, 47, 49, 46, 49, 13, 10, 72, 111, 115, 116, 58, 32, 104, 13, 10]⟩ : ByteArray)) ++ (⟨#[84, 114, 97, 110, 115, 102, 101, 114, 45, 69, 110, 99, 111, 100, 105, 110, 103, 58, 32, 67, 104, 117, 110, 107, 101, 100, 13, 10]⟩ : ByteArray)).size + t404.size ≤ 9223372036854775807
                 ·rw [if_pos c40] at H
                  have c40b0 := eq_true c40
                  have c40b1 : decide (((((⟨#[80, 79, 83, 84, 32, 47]⟩ : ByteArray) ++ a0) ++ (⟨#[32, 72, 84, 84, 80, 47, 49, 46, 49, 13, 10, 72, 111, 115, 116, 58, 32, 104, 13, 10]⟩ : ByteArray)) ++ (⟨#[84, 114, 97, 110, 115, 102, 101, 114, 45, 69, 110, 99, 111, 100, 105, 110, 103, 58, 32, 67, 104, 117, 110, 107, 101, 100, 13, 10]⟩ : ByteArray)).size + t404.size ≤ 9223372036854775807) = true := decide_eq_true c40
                  try have c40b2 : (9223372036854775807 < ((((⟨#[80, 79, 83, 84, 32, 47]⟩ : ByteArray) ++ a0) ++ (⟨#[32, 72, 84, 84, 80, 47, 49, 46, 49, 13, 10, 72, 111, 115, 116, 58, 32, 104, 13, 10]⟩ : ByteArray)) ++ (⟨#[84, 114, 97, 110, 115, 102, 101, 114, 45, 69, 110, 99, 111, 100, 105, 110, 103, 58, 32, 67, 104, 117, 110, 107, 101, 100, 13, 10]⟩ : ByteArray)).size + t404.size) = False := eq_false (Nat.not_lt.2 c40)
                  obtain ⟨nc40, hc40⟩ : ∃ n_ : Nat, n_ = ((((⟨#[80, 79, 83, 84, 32, 47]⟩ : ByteArray) ++ a0) ++ (⟨#[32, 72, 84, 84, 80, 47, 49, 46, 49, 13, 10, 72, 111, 115, 116, 58, 32, 104, 13, 10]⟩ : ByteArray)) ++ (⟨#[84, 114, 97, 110, 115, 102, 101, 114, 45, 69, 110, 99, 111, 100, 105, 110, 103, 58, 32, 67, 104, 117, 110, 107, 101, 100, 13, 10]⟩ : ByteArray)).size + t404.size := ⟨_, rfl⟩
                  have c40m0 : nc40 ≤ 9223372036854775807 := by rw [hc40]; exact c40
                  (first | simp [go_sem, c29b0, c30b0, c31b0, c33b0, c34b0, c35b0, c36b0, c39b0] at hc40 | simp [go_sem] at hc40 | skip)
                  rw [hc40] at c40m0
                  have c40m1 := eq_false (Nat.not_lt.2 c40m0)
                  have c40m2 := decide_eq_true c40m0
                  clear hc40 c40m0
                  by_cases c41 : (((((⟨#[80, 79, 83, 84, 32, 47]⟩ : ByteArray) ++ a0) ++ (⟨#[32, 72, 84, 84, 80, 47, 49, 46, 49, 13, 10, 72, 111, 115, 116, 58, 32, 104, 13, 10]⟩ : ByteArray)) ++ (⟨#[84, 114, 97, 110, 115, 102, 101, 114, 45, 69, 110, 99, 111, 100, 105, 110, 103, 58, 32, 67, 104, 117, 110, 107, 101, 100, 13, 10]⟩ : ByteArray)) ++ t404).size + t421.size ≤ 9223372036854775807
                  ·rw [if_pos c41] at H
                   have c41b0 := eq_true c41
                   have c41b1 : decide ((((((⟨#[80, 79, 83, 84, 32, 47]⟩ : ByteArray) ++ a0) ++ (⟨#[32, 72, 84, 84, 80, 47, 49, 46, 49, 13, 10, 72, 111, 115, 116, 58, 32, 104, 13, 10]⟩ : ByteArray)) ++ (⟨#[84, 114, 97, 110, 115, 102, 101, 114, 45, 69, 110, 99, 111, 100, 105, 110, 103, 58, 32, 67, 104, 117, 110, 107, 101, 100, 13, 10]⟩ : ByteArray)) ++ t404).size + t421.size ≤ 9223372036854775807) = true := decide_eq_true c41
                   try have c41b2 : (9223372036854775807 < (((((⟨#[80, 79, 83, 84, 32, 47]⟩ : ByteArray) ++ a0) ++ (⟨#[32, 72, 84, 84, 80, 47, 49, 46, 49, 13, 10, 72, 111, 115, 116, 58, 32, 104, 13, 10]⟩ : ByteArray)) ++ (⟨#[84, 114, 97, 110, 115, 102, 101, 114, 45, 69, 110, 99, 111, 100, 105, 110, 103, 58, 32, 67, 104, 117, 110, 107, 101, 100, 13, 10]⟩ : ByteArray)) ++ t404).size + t421.size) = False := eq_false (Nat.not_lt.2 c41)
                   obtain ⟨nc41, hc41⟩ : ∃ n_ : Nat, n_ = (((((⟨#[80, 79, 83, 84, 32, 47]⟩ : ByteArray) ++ a0) ++ (⟨#[32, 72, 84, 84, 80, 47, 49, 46, 49, 13, 10, 72, 111, 115, 116, 58, 32, 104, 13, 10]⟩ : ByteArray)) ++ (⟨#[84, 114, 97, 110, 115, 102, 101, 114, 45, 69, 110, 99, 111, 100, 105, 110, 103, 58, 32, 67, 104, 117, 110, 107, 101, 100, 13, 10]⟩ : ByteArray)) ++ t404).size + t421.size := ⟨_, rfl⟩
                   have c41m0 : nc41 ≤ 9223372036854775807 := by rw [hc41]; exact c41
                   (first | simp [go_sem, c29b0, c30b0, c31b0, c33b0, c34b0, c35b0, c36b0, c39b0, c40b0] at hc41 | simp [go_sem] at hc41 | skip)
                   rw [hc41] at c41m0
                   have c41m1 := eq_false (Nat.not_lt.2 c41m0)
                   have c41m2 := decide_eq_true c41m0
                   clear hc41 c41m0
                   replace H := Option.bind_eq_some_iff.mp H
                   obtain ⟨⟨t423, t424, t425, t428, t429⟩, A420, H⟩ := H
                   replace H : (if t419 = 0 then (if t429 = 0 then (if (t415.length : Int) = (wrap64 ((l1.length : Int) + 2)) then (broadsheetlaw20_RequestBack.j2 k2 a0 l1 a2 true ((t425.length : Int) != (wrap64 ((l1.length : Int) + 2))) t413 t414 t415 t418 t423 t424 t425 t428) else (broadsheetlaw20_RequestBack.j2 k2 a0 l1 a2 true true t413 t414 t415 t418 t423 t424 t425 t428)) else (broadsheetlaw20_RequestBack.j2 k2 a0 l1 a2 true true t413 t414 t415 t418 t423 t424 t425 t428)) else (broadsheetlaw20_RequestBack.j2 k2 a0 l1 a2 true true t413 t414 t415 t418 t423 t424 t425 t428)) = some r := H
                   have A42 := Aside0.mk A420
                   clear A420
                   have HC43 := Aside0.mk H
                   clear H
                   go_upto_region 21 with (first | (go_at_call 25; (with_reducible refine (broadsheetref18_Get.calls k2 _ _ l1 (⟨#[104, 111, 115, 116]⟩ : ByteArray) t406 t407 _ ?side1 ?side2 A22.out).mono ?_); (case side1 => repeat (first | exact (Kd.C_below HR1.out HB.out) | (with_reducible refine Kd.C_alloc ?_ _) | (with_reducible refine Kd.C_drewN ?_ _) | (with_reducible refine Kd.C_drew ?_))); (case side2 => exact HC1.out); rintro e w44 ⟨rfl, hb⟩; have n0_ := Aside0.mk (below_step zb0 hb); clear HB; have HB := n0_; clear n0_; (try clear hb); (try clear hb2); (try clear hk); (try clear hi)) | (go_at_call 25; (with_reducible refine (broadsheetref18_Get.calls k2 _ _ l1 (⟨#[99, 111, 110, 116, 101, 110, 116, 45, 108, 101, 110, 103, 116, 104]⟩ : ByteArray) t408 t409 _ ?side1 ?side2 A23.out).mono ?_); (case side1 => repeat (first | exact (Kd.C_below HR1.out HB.out) | (with_reducible refine Kd.C_alloc ?_ _) | (with_reducible refine Kd.C_drewN ?_ _) | (with_reducible refine Kd.C_drew ?_))); (case side2 => exact HC1.out); rintro e w45 ⟨rfl, hb⟩; have n0_ := Aside0.mk (below_step zb0 hb); clear HB; have HB := n0_; clear n0_; (try clear hb); (try clear hb2); (try clear hk); (try clear hi)) | (go_at_call 25; (with_reducible refine (broadsheetref18_Get.calls k2 _ _ l1 (⟨#[116, 114, 97, 110, 115, 102, 101, 114, 45, 101, 110, 99, 111, 100, 105, 110, 103]⟩ : ByteArray) t410 t411 _ ?side1 ?side2 A24.out).mono ?_); (case side1 => repeat (first | exact (Kd.C_below HR1.out HB.out) | (with_reducible refine Kd.C_alloc ?_ _) | (with_reducible refine Kd.C_drewN ?_ _) | (with_reducible refine Kd.C_drew ?_))); (case side2 => exact HC1.out); rintro e w46 ⟨rfl, hb⟩; have n0_ := Aside0.mk (below_step zb0 hb); clear HB; have HB := n0_; clear n0_; (try clear hb); (try clear hb2); (try clear hk); (try clear hi)) | (go_at_call 26; (with_reducible refine (broadsheetref03_Digits.calls k2 (a2.size : Int) t412 _ A32.out).mono ?_); rintro e w47 ⟨rfl, hb⟩; have n0_ := Aside0.mk (below_step zb0 hb); clear HB; have HB := n0_; clear n0_; (try clear hb); (try clear hb2); (try clear hk); (try clear hi)) | (go_at_call 17; (with_reducible refine (request_Parse.calls ((((((((⟨#[80, 79, 83, 84, 32, 47]⟩ : ByteArray) ++ a0) ++ (⟨#[32, 72, 84, 84, 80, 47, 49, 46, 49, 13, 10, 72, 111, 115, 116, 58, 32, 104, 13, 10]⟩ : ByteArray)) ++ (⟨#[67, 111, 110, 116, 101, 110, 116, 45, 76, 101, 110, 103, 116, 104, 58, 32]⟩ : ByteArray)) ++ t412) ++ (⟨#[13, 10]⟩ : ByteArray)) ++ t404) ++ a2) t413 t414 t415 t418 t419 _ ?side1 A37.out).mono ?_); (case side1 => exact Glob.below hGA.out zb0); rintro e w48 ⟨v416, rfl, ho0, hb⟩; have n0_ := Aside0.mk (Kd.R_lower ho0 (below_size zb0)); have n1_ := Aside0.mk (below_step zb0 hb); clear HB; have HO417 := n0_; have HB := n1_; clear n0_ n1_; (try clear hb); (try clear hb2); (try clear hk); (try clear hi); (try clear ho0)) | ((with_reducible refine gate_dst (N := 20) rfl ?_); (try (refine gate_guard (by rfl) ?_; dsimp only)); refine box_event ?hg (N := 20) ?hd (cs := #[.string (⟨#[]⟩ : ByteArray), .string (⟨#[]⟩ : ByteArray), .slice none 0 0, .string (⟨#[]⟩ : ByteArray)]) (t := 36) ?hr ?_; (case hd => rfl); (case hg => rfl); (case hr => first | (go_simp; done) | (go_simp; rfl)); intro gb420 hg w49 hbox hb; have n0_ := Aside0.mk (Kd.R_below zb14 hb); have n1_ := Aside0.mk (below_step zb0 hb); have n2_ := Aside0.mk (hbox); have n3_ := Aside0.mk ((by rw [hg]; exact (below_size zb0) : w.heap.size ≤ gb420)); have n4_ := Aside0.mk ((by rw [hg]; exact (below_size zb0) : w.heap.size ≤ gb420)); clear HO417; clear HB; have HO417 := n0_; have HB := n1_; have BK420 := n2_; have GW420 := n3_; have GE420 := n4_; clear n0_ n1_ n2_ n3_ n4_; clear hb hbox hg; have hcz50_0 : w49.cell? ⟨gb420, 0, none⟩ = some (.string (⟨#[]⟩ : ByteArray)) := (blk_cell BK420.out 0).trans rfl; have hcz50_1 : w49.cell? ⟨gb420, 1, none⟩ = some (.string (⟨#[]⟩ : ByteArray)) := (blk_cell BK420.out 1).trans rfl; have hcz50_2 : w49.cell? ⟨gb420, 2, none⟩ = some (.slice none 0 0) := (blk_cell BK420.out 2).trans rfl; have hcz50_3 : w49.cell? ⟨gb420, 3, none⟩ = some (.string (⟨#[]⟩ : ByteArray)) := (blk_cell BK420.out 3).trans rfl; have hfz50_0 := blk_frozen BK420.out 0; have hfz50_1 := blk_frozen BK420.out 1; have hfz50_2 := blk_frozen BK420.out 2; have hfz50_3 := blk_frozen BK420.out 3; obtain ⟨Ao51, co51, eo51⟩ := Kd.R_slice HO417.out; subst eo51) | (go_at_call 11; (with_reducible refine (broadsheetref19_Encode.calls k2 a2 (wrap64 (1 + (wrap64 (a3)))) t421 t422 _ A38.out).mono ?_); rintro e w52 ⟨rfl, hb⟩; have n0_ := Aside0.mk (Kd.R_below zb18 hb); have n1_ := Aside0.mk (blk_below (g := gb420) (o := .cells #[.string t413, .string t414, .slice Ao51 t415.length co51, .string t418] 36 (0, 0)) zb10 hb); have n2_ := Aside0.mk (below_step zb5 hb); clear HO417; clear BK420; clear HB; have HO417 := n0_; have BK420 := n1_; have HB := n2_; clear n0_ n1_ n2_; (try clear hb); (try clear hb2); (try clear hk); (try clear hi)) | (go_at_call 17; (with_reducible refine (request_Parse.calls ((((((⟨#[80, 79, 83, 84, 32, 47]⟩ : ByteArray) ++ a0) ++ (⟨#[32, 72, 84, 84, 80, 47, 49, 46, 49, 13, 10, 72, 111, 115, 116, 58, 32, 104, 13, 10]⟩ : ByteArray)) ++ (⟨#[84, 114, 97, 110, 115, 102, 101, 114, 45, 69, 110, 99, 111, 100, 105, 110, 103, 58, 32, 67, 104, 117, 110, 107, 101, 100, 13, 10]⟩ : ByteArray)) ++ t404) ++ t421) t423 t424 t425 t428 t429 _ ?side1 A42.out).mono ?_); (case side1 => exact Glob.below hGA.out zb5); rintro e w53 ⟨v426, rfl, ho0, hb⟩; have n0_ := Aside0.mk (Kd.R_elder' zb14 (Kd.R_base ho0) hb); have n1_ := Aside0.mk (Kd.R_lower (Kd.R_new' ho0 (Kd.R_lt zb14)) (below_size zb5)); have n2_ := Aside0.mk (blk_below (g := gb420) (o := .cells #[.string t413, .string t414, .slice Ao51 t415.length co51, .string t418] 36 (0, 0)) zb12 hb); have n3_ := Aside0.mk (below_step zb5 hb); clear HO417; clear BK420; clear HB; have HO417 := n0_; have HO427 := n1_; have BK420 := n2_; have HB := n3_; clear n0_ n1_ n2_ n3_; (try clear hb); (try clear hb2); (try clear hk); (try clear hi); (try clear ho0)) | ((with_reducible refine gate_dst (N := 24) rfl ?_); (try (refine gate_guard (by rfl) ?_; dsimp only)); refine box_event ?hg (N := 24) ?hd (cs := #[.string (⟨#[]⟩ : ByteArray), .string (⟨#[]⟩ : ByteArray), .slice none 0 0, .string (⟨#[]⟩ : ByteArray)]) (t := 36) ?hr ?_; (case hd => rfl); (case hg => rfl); (case hr => first | (go_simp; done) | (go_simp; rfl)); intro gb430 hg w54 hbox hb; have n0_ := Aside0.mk (Kd.R_below zb14 hb); have n1_ := Aside0.mk (Kd.R_below (by (with_reducible repeat (first | apply Kd.R_alloc | apply Kd.R_drewN | apply Kd.R_drew)); exact HO427.out) hb); have n2_ := Aside0.mk (blk_below (g := gb420) (o := .cells #[.string t413, .string t414, .slice Ao51 t415.length co51, .string t418] 36 (0, 0)) zb12 hb); have n3_ := Aside0.mk (below_step zb5 hb); have n4_ := Aside0.mk (hbox); have n5_ := Aside0.mk ((by rw [hg]; exact (below_size zb5) : w.heap.size ≤ gb430)); have n6_ := Aside0.mk ((by rw [hg]; exact (below_size zb5) : w.heap.size ≤ gb430)); have n7_ := Aside0.mk ((by rw [hg]; exact Nat.ne_of_lt (blk_lt (g := gb420) (o := .cells #[.string t413, .string t414, .slice Ao51 t415.length co51, .string t418] 36 (0, 0)) zb12) : gb420 ≠ gb430)); have n8_ := Aside0.mk ((by rw [hg]; exact Nat.ne_of_gt (blk_lt (g := gb420) (o := .cells #[.string t413, .string t414, .slice Ao51 t415.length co51, .string t418] 36 (0, 0)) zb12) : gb430 ≠ gb420)); clear HO417; clear HO427; clear BK420; clear HB; have HO417 := n0_; have HO427 := n1_; have BK420 := n2_; have HB := n3_; have BK430 := n4_; have GW430 := n5_; have GE430 := n6_; have NB420_430 := n7_; have NB430_420 := n8_; clear n0_ n1_ n2_ n3_ n4_ n5_ n6_ n7_ n8_; clear hb hbox hg; have hnb55 := NB430_420.out; have hnc55 := NB420_430.out; have hcz56_0 : w54.cell? ⟨gb430, 0, none⟩ = some (.string (⟨#[]⟩ : ByteArray)) := (blk_cell BK430.out 0).trans rfl; have hcz56_1 : w54.cell? ⟨gb430, 1, none⟩ = some (.string (⟨#[]⟩ : ByteArray)) := (blk_cell BK430.out 1).trans rfl; have hcz56_2 : w54.cell? ⟨gb430, 2, none⟩ = some (.slice none 0 0) := (blk_cell BK430.out 2).trans rfl; have hcz56_3 : w54.cell? ⟨gb430, 3, none⟩ = some (.string (⟨#[]⟩ : ByteArray)) := (blk_cell BK430.out 3).trans rfl; have hfz56_0 := blk_frozen BK430.out 0; have hfz56_1 := blk_frozen BK430.out 1; have hfz56_2 := blk_frozen BK430.out 2; have hfz56_3 := blk_frozen BK430.out 3; obtain ⟨Ao57, co57, eo57⟩ := Kd.R_slice HO427.out; subst eo57))
                   repeat (go_quiet (first | (go_at_call 25; (with_reducible refine (broadsheetref18_Get.calls k2 _ _ l1 (⟨#[104, 111, 115, 116]⟩ : ByteArray) t406 t407 _ ?side1 ?side2 A22.out).mono ?_); (case side1 => repeat (first | exact (Kd.C_below HR1.out HB.out) | (with_reducible refine Kd.C_alloc ?_ _) | (with_reducible refine Kd.C_drewN ?_ _) | (with_reducible refine Kd.C_drew ?_))); (case side2 => exact HC1.out); rintro e w44 ⟨rfl, hb⟩; have n0_ := Aside0.mk (below_step zb0 hb); clear HB; have HB := n0_; clear n0_; (try clear hb); (try clear hb2); (try clear hk); (try clear hi)) | (go_at_call 25; (with_reducible refine (broadsheetref18_Get.calls k2 _ _ l1 (⟨#[99, 111, 110, 116, 101, 110, 116, 45, 108, 101, 110, 103, 116, 104]⟩ : ByteArray) t408 t409 _ ?side1 ?side2 A23.out).mono ?_); (case side1 => repeat (first | exact (Kd.C_below HR1.out HB.out) | (with_reducible refine Kd.C_alloc ?_ _) | (with_reducible refine Kd.C_drewN ?_ _) | (with_reducible refine Kd.C_drew ?_))); (case side2 => exact HC1.out); rintro e w45 ⟨rfl, hb⟩; have n0_ := Aside0.mk (below_step zb0 hb); clear HB; have HB := n0_; clear n0_; (try clear hb); (try clear hb2); (try clear hk); (try clear hi)) | (go_at_call 25; (with_reducible refine (broadsheetref18_Get.calls k2 _ _ l1 (⟨#[116, 114, 97, 110, 115, 102, 101, 114, 45, 101, 110, 99, 111, 100, 105, 110, 103]⟩ : ByteArray) t410 t411 _ ?side1 ?side2 A24.out).mono ?_); (case side1 => repeat (first | exact (Kd.C_below HR1.out HB.out) | (with_reducible refine Kd.C_alloc ?_ _) | (with_reducible refine Kd.C_drewN ?_ _) | (with_reducible refine Kd.C_drew ?_))); (case side2 => exact HC1.out); rintro e w46 ⟨rfl, hb⟩; have n0_ := Aside0.mk (below_step zb0 hb); clear HB; have HB := n0_; clear n0_; (try clear hb); (try clear hb2); (try clear hk); (try clear hi)) | (go_at_call 26; (with_reducible refine (broadsheetref03_Digits.calls k2 (a2.size : Int) t412 _ A32.out).mono ?_); rintro e w47 ⟨rfl, hb⟩; have n0_ := Aside0.mk (below_step zb0 hb); clear HB; have HB := n0_; clear n0_; (try clear hb); (try clear hb2); (try clear hk); (try clear hi)) | (go_at_call 17; (with_reducible refine (request_Parse.calls ((((((((⟨#[80, 79, 83, 84, 32, 47]⟩ : ByteArray) ++ a0) ++ (⟨#[32, 72, 84, 84, 80, 47, 49, 46, 49, 13, 10, 72, 111, 115, 116, 58, 32, 104, 13, 10]⟩ : ByteArray)) ++ (⟨#[67, 111, 110, 116, 101, 110, 116, 45, 76, 101, 110, 103, 116, 104, 58, 32]⟩ : ByteArray)) ++ t412) ++ (⟨#[13, 10]⟩ : ByteArray)) ++ t404) ++ a2) t413 t414 t415 t418 t419 _ ?side1 A37.out).mono ?_); (case side1 => exact Glob.below hGA.out zb0); rintro e w48 ⟨v416, rfl, ho0, hb⟩; have n0_ := Aside0.mk (Kd.R_lower ho0 (below_size zb0)); have n1_ := Aside0.mk (below_step zb0 hb); clear HB; have HO417 := n0_; have HB := n1_; clear n0_ n1_; (try clear hb); (try clear hb2); (try clear hk); (try clear hi); (try clear ho0)) | ((with_reducible refine gate_dst (N := 20) rfl ?_); (try (refine gate_guard (by rfl) ?_; dsimp only)); refine box_event ?hg (N := 20) ?hd (cs := #[.string (⟨#[]⟩ : ByteArray), .string (⟨#[]⟩ : ByteArray), .slice none 0 0, .string (⟨#[]⟩ : ByteArray)]) (t := 36) ?hr ?_; (case hd => rfl); (case hg => rfl); (case hr => first | (go_simp; done) | (go_simp; rfl)); intro gb420 hg w49 hbox hb; have n0_ := Aside0.mk (Kd.R_below zb14 hb); have n1_ := Aside0.mk (below_step zb0 hb); have n2_ := Aside0.mk (hbox); have n3_ := Aside0.mk ((by rw [hg]; exact (below_size zb0) : w.heap.size ≤ gb420)); have n4_ := Aside0.mk ((by rw [hg]; exact (below_size zb0) : w.heap.size ≤ gb420)); clear HO417; clear HB; have HO417 := n0_; have HB := n1_; have BK420 := n2_; have GW420 := n3_; have GE420 := n4_; clear n0_ n1_ n2_ n3_ n4_; clear hb hbox hg; have hcz50_0 : w49.cell? ⟨gb420, 0, none⟩ = some (.string (⟨#[]⟩ : ByteArray)) := (blk_cell BK420.out 0).trans rfl; have hcz50_1 : w49.cell? ⟨gb420, 1, none⟩ = some (.string (⟨#[]⟩ : ByteArray)) := (blk_cell BK420.out 1).trans rfl; have hcz50_2 : w49.cell? ⟨gb420, 2, none⟩ = some (.slice none 0 0) := (blk_cell BK420.out 2).trans rfl; have hcz50_3 : w49.cell? ⟨gb420, 3, none⟩ = some (.string (⟨#[]⟩ : ByteArray)) := (blk_cell BK420.out 3).trans rfl; have hfz50_0 := blk_frozen BK420.out 0; have hfz50_1 := blk_frozen BK420.out 1; have hfz50_2 := blk_frozen BK420.out 2; have hfz50_3 := blk_frozen BK420.out 3; obtain ⟨Ao51, co51, eo51⟩ := Kd.R_slice HO417.out; subst eo51) | (go_at_call 11; (with_reducible refine (broadsheetref19_Encode.calls k2 a2 (wrap64 (1 + (wrap64 (a3)))) t421 t422 _ A38.out).mono ?_); rintro e w52 ⟨rfl, hb⟩; have n0_ := Aside0.mk (Kd.R_below zb18 hb); have n1_ := Aside0.mk (blk_below (g := gb420) (o := .cells #[.string t413, .string t414, .slice Ao51 t415.length co51, .string t418] 36 (0, 0)) zb10 hb); have n2_ := Aside0.mk (below_step zb5 hb); clear HO417; clear BK420; clear HB; have HO417 := n0_; have BK420 := n1_; have HB := n2_; clear n0_ n1_ n2_; (try clear hb); (try clear hb2); (try clear hk); (try clear hi)) | (go_at_call 17; (with_reducible refine (request_Parse.calls ((((((⟨#[80, 79, 83, 84, 32, 47]⟩ : ByteArray) ++ a0) ++ (⟨#[32, 72, 84, 84, 80, 47, 49, 46, 49, 13, 10, 72, 111, 115, 116, 58, 32, 104, 13, 10]⟩ : ByteArray)) ++ (⟨#[84, 114, 97, 110, 115, 102, 101, 114, 45, 69, 110, 99, 111, 100, 105, 110, 103, 58, 32, 67, 104, 117, 110, 107, 101, 100, 13, 10]⟩ : ByteArray)) ++ t404) ++ t421) t423 t424 t425 t428 t429 _ ?side1 A42.out).mono ?_); (case side1 => exact Glob.below hGA.out zb5); rintro e w53 ⟨v426, rfl, ho0, hb⟩; have n0_ := Aside0.mk (Kd.R_elder' zb14 (Kd.R_base ho0) hb); have n1_ := Aside0.mk (Kd.R_lower (Kd.R_new' ho0 (Kd.R_lt zb14)) (below_size zb5)); have n2_ := Aside0.mk (blk_below (g := gb420) (o := .cells #[.string t413, .string t414, .slice Ao51 t415.length co51, .string t418] 36 (0, 0)) zb12 hb); have n3_ := Aside0.mk (below_step zb5 hb); clear HO417; clear BK420; clear HB; have HO417 := n0_; have HO427 := n1_; have BK420 := n2_; have HB := n3_; clear n0_ n1_ n2_ n3_; (try clear hb); (try clear hb2); (try clear hk); (try clear hi); (try clear ho0)) | ((with_reducible refine gate_dst (N := 24) rfl ?_); (try (refine gate_guard (by rfl) ?_; dsimp only)); refine box_event ?hg (N := 24) ?hd (cs := #[.string (⟨#[]⟩ : ByteArray), .string (⟨#[]⟩ : ByteArray), .slice none 0 0, .string (⟨#[]⟩ : ByteArray)]) (t := 36) ?hr ?_; (case hd => rfl); (case hg => rfl); (case hr => first | (go_simp; done) | (go_simp; rfl)); intro gb430 hg w54 hbox hb; have n0_ := Aside0.mk (Kd.R_below zb14 hb); have n1_ := Aside0.mk (Kd.R_below (by (with_reducible repeat (first | apply Kd.R_alloc | apply Kd.R_drewN | apply Kd.R_drew)); exact HO427.out) hb); have n2_ := Aside0.mk (blk_below (g := gb420) (o := .cells #[.string t413, .string t414, .slice Ao51 t415.length co51, .string t418] 36 (0, 0)) zb12 hb); have n3_ := Aside0.mk (below_step zb5 hb); have n4_ := Aside0.mk (hbox); have n5_ := Aside0.mk ((by rw [hg]; exact (below_size zb5) : w.heap.size ≤ gb430)); have n6_ := Aside0.mk ((by rw [hg]; exact (below_size zb5) : w.heap.size ≤ gb430)); have n7_ := Aside0.mk ((by rw [hg]; exact Nat.ne_of_lt (blk_lt (g := gb420) (o := .cells #[.string t413, .string t414, .slice Ao51 t415.length co51, .string t418] 36 (0, 0)) zb12) : gb420 ≠ gb430)); have n8_ := Aside0.mk ((by rw [hg]; exact Nat.ne_of_gt (blk_lt (g := gb420) (o := .cells #[.string t413, .string t414, .slice Ao51 t415.length co51, .string t418] 36 (0, 0)) zb12) : gb430 ≠ gb420)); clear HO417; clear HO427; clear BK420; clear HB; have HO417 := n0_; have HO427 := n1_; have BK420 := n2_; have HB := n3_; have BK430 := n4_; have GW430 := n5_; have GE430 := n6_; have NB420_430 := n7_; have NB430_420 := n8_; clear n0_ n1_ n2_ n3_ n4_ n5_ n6_ n7_ n8_; clear hb hbox hg; have hnb55 := NB430_420.out; have hnc55 := NB420_430.out; have hcz56_0 : w54.cell? ⟨gb430, 0, none⟩ = some (.string (⟨#[]⟩ : ByteArray)) := (blk_cell BK430.out 0).trans rfl; have hcz56_1 : w54.cell? ⟨gb430, 1, none⟩ = some (.string (⟨#[]⟩ : ByteArray)) := (blk_cell BK430.out 1).trans rfl; have hcz56_2 : w54.cell? ⟨gb430, 2, none⟩ = some (.slice none 0 0) := (blk_cell BK430.out 2).trans rfl; have hcz56_3 : w54.cell? ⟨gb430, 3, none⟩ = some (.string (⟨#[]⟩ : ByteArray)) := (blk_cell BK430.out 3).trans rfl; have hfz56_0 := blk_frozen BK430.out 0; have hfz56_1 := blk_frozen BK430.out 1; have hfz56_2 := blk_frozen BK430.out 2; have hfz56_3 := blk_frozen BK430.out 3; obtain ⟨Ao57, co57, eo57⟩ := Kd.R_slice HO427.out; subst eo57)); go_upto_region 21 with (first | (go_at_call 25; (with_reducible refine (broadsheetref18_Get.calls k2 _ _ l1 (⟨#[104, 111, 115, 116]⟩ : ByteArray) t406 t407 _ ?side1 ?side2 A22.out).mono ?_); (case side1 => repeat (first | exact (Kd.C_below HR1.out HB.out) | (with_reducible refine Kd.C_alloc ?_ _) | (with_reducible refine Kd.C_drewN ?_ _) | (with_reducible refine Kd.C_drew ?_))); (case side2 => exact HC1.out); rintro e w44 ⟨rfl, hb⟩; have n0_ := Aside0.mk (below_step zb0 hb); clear HB; have HB := n0_; clear n0_; (try clear hb); (try clear hb2); (try clear hk); (try clear hi)) | (go_at_call 25; (with_reducible refine (broadsheetref18_Get.calls k2 _ _ l1 (⟨#[99, 111, 110, 116, 101, 110, 116, 45, 108, 101, 110, 103, 116, 104]⟩ : ByteArray) t408 t409 _ ?side1 ?side2 A23.out).mono ?_); (case side1 => repeat (first | exact (Kd.C_below HR1.out HB.out) | (with_reducible refine Kd.C_alloc ?_ _) | (with_reducible refine Kd.C_drewN ?_ _) | (with_reducible refine Kd.C_drew ?_))); (case side2 => exact HC1.out); rintro e w45 ⟨rfl, hb⟩; have n0_ := Aside0.mk (below_step zb0 hb); clear HB; have HB := n0_; clear n0_; (try clear hb); (try clear hb2); (try clear hk); (try clear hi)) | (go_at_call 25; (with_reducible refine (broadsheetref18_Get.calls k2 _ _ l1 (⟨#[116, 114, 97, 110, 115, 102, 101, 114, 45, 101, 110, 99, 111, 100, 105, 110, 103]⟩ : ByteArray) t410 t411 _ ?side1 ?side2 A24.out).mono ?_); (case side1 => repeat (first | exact (Kd.C_below HR1.out HB.out) | (with_reducible refine Kd.C_alloc ?_ _) | (with_reducible refine Kd.C_drewN ?_ _) | (with_reducible refine Kd.C_drew ?_))); (case side2 => exact HC1.out); rintro e w46 ⟨rfl, hb⟩; have n0_ := Aside0.mk (below_step zb0 hb); clear HB; have HB := n0_; clear n0_; (try clear hb); (try clear hb2); (try clear hk); (try clear hi)) | (go_at_call 26; (with_reducible refine (broadsheetref03_Digits.calls k2 (a2.size : Int) t412 _ A32.out).mono ?_); rintro e w47 ⟨rfl, hb⟩; have n0_ := Aside0.mk (below_step zb0 hb); clear HB; have HB := n0_; clear n0_; (try clear hb); (try clear hb2); (try clear hk); (try clear hi)) | (go_at_call 17; (with_reducible refine (request_Parse.calls ((((((((⟨#[80, 79, 83, 84, 32, 47]⟩ : ByteArray) ++ a0) ++ (⟨#[32, 72, 84, 84, 80, 47, 49, 46, 49, 13, 10, 72, 111, 115, 116, 58, 32, 104, 13, 10]⟩ : ByteArray)) ++ (⟨#[67, 111, 110, 116, 101, 110, 116, 45, 76, 101, 110, 103, 116, 104, 58, 32]⟩ : ByteArray)) ++ t412) ++ (⟨#[13, 10]⟩ : ByteArray)) ++ t404) ++ a2) t413 t414 t415 t418 t419 _ ?side1 A37.out).mono ?_); (case side1 => exact Glob.below hGA.out zb0); rintro e w48 ⟨v416, rfl, ho0, hb⟩; have n0_ := Aside0.mk (Kd.R_lower ho0 (below_size zb0)); have n1_ := Aside0.mk (below_step zb0 hb); clear HB; have HO417 := n0_; have HB := n1_; clear n0_ n1_; (try clear hb); (try clear hb2); (try clear hk); (try clear hi); (try clear ho0)) | ((with_reducible refine gate_dst (N := 20) rfl ?_); (try (refine gate_guard (by rfl) ?_; dsimp only)); refine box_event ?hg (N := 20) ?hd (cs := #[.string (⟨#[]⟩ : ByteArray), .string (⟨#[]⟩ : ByteArray), .slice none 0 0, .string (⟨#[]⟩ : ByteArray)]) (t := 36) ?hr ?_; (case hd => rfl); (case hg => rfl); (case hr => first | (go_simp; done) | (go_simp; rfl)); intro gb420 hg w49 hbox hb; have n0_ := Aside0.mk (Kd.R_below zb14 hb); have n1_ := Aside0.mk (below_step zb0 hb); have n2_ := Aside0.mk (hbox); have n3_ := Aside0.mk ((by rw [hg]; exact (below_size zb0) : w.heap.size ≤ gb420)); have n4_ := Aside0.mk ((by rw [hg]; exact (below_size zb0) : w.heap.size ≤ gb420)); clear HO417; clear HB; have HO417 := n0_; have HB := n1_; have BK420 := n2_; have GW420 := n3_; have GE420 := n4_; clear n0_ n1_ n2_ n3_ n4_; clear hb hbox hg; have hcz50_0 : w49.cell? ⟨gb420, 0, none⟩ = some (.string (⟨#[]⟩ : ByteArray)) := (blk_cell BK420.out 0).trans rfl; have hcz50_1 : w49.cell? ⟨gb420, 1, none⟩ = some (.string (⟨#[]⟩ : ByteArray)) := (blk_cell BK420.out 1).trans rfl; have hcz50_2 : w49.cell? ⟨gb420, 2, none⟩ = some (.slice none 0 0) := (blk_cell BK420.out 2).trans rfl; have hcz50_3 : w49.cell? ⟨gb420, 3, none⟩ = some (.string (⟨#[]⟩ : ByteArray)) := (blk_cell BK420.out 3).trans rfl; have hfz50_0 := blk_frozen BK420.out 0; have hfz50_1 := blk_frozen BK420.out 1; have hfz50_2 := blk_frozen BK420.out 2; have hfz50_3 := blk_frozen BK420.out 3; obtain ⟨Ao51, co51, eo51⟩ := Kd.R_slice HO417.out; subst eo51) | (go_at_call 11; (with_reducible refine (broadsheetref19_Encode.calls k2 a2 (wrap64 (1 + (wrap64 (a3)))) t421 t422 _ A38.out).mono ?_); rintro e w52 ⟨rfl, hb⟩; have n0_ := Aside0.mk (Kd.R_below zb18 hb); have n1_ := Aside0.mk (blk_below (g := gb420) (o := .cells #[.string t413, .string t414, .slice Ao51 t415.length co51, .string t418] 36 (0, 0)) zb10 hb); have n2_ := Aside0.mk (below_step zb5 hb); clear HO417; clear BK420; clear HB; have HO417 := n0_; have BK420 := n1_; have HB := n2_; clear n0_ n1_ n2_; (try clear hb); (try clear hb2); (try clear hk); (try clear hi)) | (go_at_call 17; (with_reducible refine (request_Parse.calls ((((((⟨#[80, 79, 83, 84, 32, 47]⟩ : ByteArray) ++ a0) ++ (⟨#[32, 72, 84, 84, 80, 47, 49, 46, 49, 13, 10, 72, 111, 115, 116, 58, 32, 104, 13, 10]⟩ : ByteArray)) ++ (⟨#[84, 114, 97, 110, 115, 102, 101, 114, 45, 69, 110, 99, 111, 100, 105, 110, 103, 58, 32, 67, 104, 117, 110, 107, 101, 100, 13, 10]⟩ : ByteArray)) ++ t404) ++ t421) t423 t424 t425 t428 t429 _ ?side1 A42.out).mono ?_); (case side1 => exact Glob.below hGA.out zb5); rintro e w53 ⟨v426, rfl, ho0, hb⟩; have n0_ := Aside0.mk (Kd.R_elder' zb14 (Kd.R_base ho0) hb); have n1_ := Aside0.mk (Kd.R_lower (Kd.R_new' ho0 (Kd.R_lt zb14)) (below_size zb5)); have n2_ := Aside0.mk (blk_below (g := gb420) (o := .cells #[.string t413, .string t414, .slice Ao51 t415.length co51, .string t418] 36 (0, 0)) zb12 hb); have n3_ := Aside0.mk (below_step zb5 hb); clear HO417; clear BK420; clear HB; have HO417 := n0_; have HO427 := n1_; have BK420 := n2_; have HB := n3_; clear n0_ n1_ n2_ n3_; (try clear hb); (try clear hb2); (try clear hk); (try clear hi); (try clear ho0)) | ((with_reducible refine gate_dst (N := 24) rfl ?_); (try (refine gate_guard (by rfl) ?_; dsimp only)); refine box_event ?hg (N := 24) ?hd (cs := #[.string (⟨#[]⟩ : ByteArray), .string (⟨#[]⟩ : ByteArray), .slice none 0 0, .string (⟨#[]⟩ : ByteArray)]) (t := 36) ?hr ?_; (case hd => rfl); (case hg => rfl); (case hr => first | (go_simp; done) | (go_simp; rfl)); intro gb430 hg w54 hbox hb; have n0_ := Aside0.mk (Kd.R_below zb14 hb); have n1_ := Aside0.mk (Kd.R_below (by (with_reducible repeat (first | apply Kd.R_alloc | apply Kd.R_drewN | apply Kd.R_drew)); exact HO427.out) hb); have n2_ := Aside0.mk (blk_below (g := gb420) (o := .cells #[.string t413, .string t414, .slice Ao51 t415.length co51, .string t418] 36 (0, 0)) zb12 hb); have n3_ := Aside0.mk (below_step zb5 hb); have n4_ := Aside0.mk (hbox); have n5_ := Aside0.mk ((by rw [hg]; exact (below_size zb5) : w.heap.size ≤ gb430)); have n6_ := Aside0.mk ((by rw [hg]; exact (below_size zb5) : w.heap.size ≤ gb430)); have n7_ := Aside0.mk ((by rw [hg]; exact Nat.ne_of_lt (blk_lt (g := gb420) (o := .cells #[.string t413, .string t414, .slice Ao51 t415.length co51, .string t418] 36 (0, 0)) zb12) : gb420 ≠ gb430)); have n8_ := Aside0.mk ((by rw [hg]; exact Nat.ne_of_gt (blk_lt (g := gb420) (o := .cells #[.string t413, .string t414, .slice Ao51 t415.length co51, .string t418] 36 (0, 0)) zb12) : gb430 ≠ gb420)); clear HO417; clear HO427; clear BK420; clear HB; have HO417 := n0_; have HO427 := n1_; have BK420 := n2_; have HB := n3_; have BK430 := n4_; have GW430 := n5_; have GE430 := n6_; have NB420_430 := n7_; have NB430_420 := n8_; clear n0_ n1_ n2_ n3_ n4_ n5_ n6_ n7_ n8_; clear hb hbox hg; have hnb55 := NB430_420.out; have hnc55 := NB420_430.out; have hcz56_0 : w54.cell? ⟨gb430, 0, none⟩ = some (.string (⟨#[]⟩ : ByteArray)) := (blk_cell BK430.out 0).trans rfl; have hcz56_1 : w54.cell? ⟨gb430, 1, none⟩ = some (.string (⟨#[]⟩ : ByteArray)) := (blk_cell BK430.out 1).trans rfl; have hcz56_2 : w54.cell? ⟨gb430, 2, none⟩ = some (.slice none 0 0) := (blk_cell BK430.out 2).trans rfl; have hcz56_3 : w54.cell? ⟨gb430, 3, none⟩ = some (.string (⟨#[]⟩ : ByteArray)) := (blk_cell BK430.out 3).trans rfl; have hfz56_0 := blk_frozen BK430.out 0; have hfz56_1 := blk_frozen BK430.out 1; have hfz56_2 := blk_frozen BK430.out 2; have hfz56_3 := blk_frozen BK430.out 3; obtain ⟨Ao57, co57, eo57⟩ := Kd.R_slice HO427.out; subst eo57)))
                   (try simp only [Act.put, List.setIfInBounds_toArray, List.set_cons_zero, List.set_cons_succ])
                   go_cut [157] (fun v157 wc => ∃ (kq : Nat) (x157_42 : Bool), v157 = .bool x157_42 ∧ Aside0 (broadsheetlaw20_RequestBack.j2 kq a0 l1 a2 true x157_42 t413 t414 t415 t418 t423 t424 t425 t428 = some r) ∧ Aside0 (kq ≤ k2) ∧ Aside0 (Kd.R k49 49 wc w.heap.size (fun k_ => some k_ ≠ ((.slice Ao57 t425.length co57) : Value).ownBlock) (.slice Ao51 t415.length co51) t415) ∧ Aside0 (Kd.R k49 49 wc w.heap.size (fun k_ => some k_ ≠ ((.slice Ao51 t415.length co51) : Value).ownBlock) (.slice Ao57 t425.length co57) t425) ∧ Aside0 (wc.heap[gb420]? = some (.cells #[.string t413, .string t414, (.slice Ao51 t415.length co51), .string t418] 36 (0, 0))) ∧ Aside0 (wc.heap[gb430]? = some (.cells #[.string t423, .string t424, (.slice Ao57 t425.length co57), .string t428] 36 (0, 0))) ∧ Aside0 (Below w.heap.size w wc))
                   case first =>
                    have H := HC43.out
                    clear HC43
                    by_cases c58 : t419 = 0
                    ·rw [if_pos c58] at H
                     have c58b0 : (t419 == 0) = true := beq_iff_eq.mpr c58
                     have c58b1 : (t419 != 0) = false := bne_eq_false_iff_eq.mpr c58
                     clear c58
                     (first | rw [c58b0] | (simp only [i64_w, i32_w]; rw [c58b0]) | skip)
                     by_cases c59 : t429 = 0
                     ·rw [if_pos c59] at H
                      have c59b0 : (t429 == 0) = true := beq_iff_eq.mpr c59
                      have c59b1 : (t429 != 0) = false := bne_eq_false_iff_eq.mpr c59
                      clear c59
                      by_cases c60 : (t415.length : Int) = (wrap64 ((l1.length : Int) + 2))
                      ·rw [if_pos c60] at H
                       have c60b0 : ((t415.length : Int) == (wrap64 ((l1.length : Int) + 2))) = true := beq_iff_eq.mpr c60
                       have c60b1 : ((t415.length : Int) != (wrap64 ((l1.length : Int) + 2))) = false := bne_eq_false_iff_eq.mpr c60
                       clear c60
                       have H' := Aside0.mk H
                       clear H
                       have hnb61 := NB420_430.out
                       have hnc61 := NB430_420.out
                       have hcz62_0 : w54.cell? ⟨gb420, 0, none⟩ = some (.string t413) := (blk_cell BK420.out 0).trans rfl
                       have hcz62_1 : w54.cell? ⟨gb420, 1, none⟩ = some (.string t414) := (blk_cell BK420.out 1).trans rfl
                       have hcz62_2 : w54.cell? ⟨gb420, 2, none⟩ = some (.slice Ao51 t415.length co51) := (blk_cell BK420.out 2).trans rfl
                       have hcz62_3 : w54.cell? ⟨gb420, 3, none⟩ = some (.string t418) := (blk_cell BK420.out 3).trans rfl
                       have hfz62_0 := blk_frozen BK420.out 0
                       have hfz62_1 := blk_frozen BK420.out 1
                       have hfz62_2 := blk_frozen BK420.out 2
                       have hfz62_3 := blk_frozen BK420.out 3
                       have hcz63_0 : w54.cell? ⟨gb430, 0, none⟩ = some (.string (⟨#[]⟩ : ByteArray)) := (blk_cell BK430.out 0).trans rfl
                       have hcz63_1 : w54.cell? ⟨gb430, 1, none⟩ = some (.string (⟨#[]⟩ : ByteArray)) := (blk_cell BK430.out 1).trans rfl
                       have hcz63_2 : w54.cell? ⟨gb430, 2, none⟩ = some (.slice none 0 0) := (blk_cell BK430.out 2).trans rfl
                       have hcz63_3 : w54.cell? ⟨gb430, 3, none⟩ = some (.string (⟨#[]⟩ : ByteArray)) := (blk_cell BK430.out 3).trans rfl
                       have hfz63_0 := blk_frozen BK430.out 0
                       have hfz63_1 := blk_frozen BK430.out 1
                       have hfz63_2 := blk_frozen BK430.out 2
                       have hfz63_3 := blk_frozen BK430.out 3
                       go_wp2
                       repeat (go_quiet (fail); try go_wp2)
                       go_meet
                       case rel => exact ⟨_, (((t425.length : Int) != (wrap64 ((l1.length : Int) + 2)))), zb6, H', ⟨by have := HJ7.out; have := HK2.out; first | omega | exact Nat.le_refl _⟩, ⟨by (with_reducible repeat (first | apply Kd.R_alloc | apply Kd.R_drewN | apply Kd.R_drew)); exact Kd.R_mono (Kd.R_far (p := ⟨gb430, 3, none⟩) (Kd.R_far (p := ⟨gb430, 2, none⟩) (Kd.R_far (p := ⟨gb430, 1, none⟩) (Kd.R_far (p := ⟨gb430, 0, none⟩) (Kd.R_types HO417.out BK430.out zb20) (fun _ hk => hk.2) (.string t423)) (fun _ hk => hk.2) (.string t424)) (fun _ hk => hk.2) (.slice Ao57 t425.length co57)) (fun _ hk => hk.2) (.string t428)) (fun _ hk => hk.1.2)⟩, ⟨by (with_reducible repeat (first | apply Kd.R_alloc | apply Kd.R_drewN | apply Kd.R_drew)); exact Kd.R_mono (Kd.R_far (p := ⟨gb430, 3, none⟩) (Kd.R_far (p := ⟨gb430, 2, none⟩) (Kd.R_far (p := ⟨gb430, 1, none⟩) (Kd.R_far (p := ⟨gb430, 0, none⟩) (Kd.R_types HO427.out BK430.out zb20) (fun _ hk => hk.2) (.string t423)) (fun _ hk => hk.2) (.string t424)) (fun _ hk => hk.2) (.slice Ao57 t425.length co57)) (fun _ hk => hk.2) (.string t428)) (fun _ hk => hk.1.2)⟩, ⟨by (with_reducible repeat (first | refine blk_drewN ?_ _ | refine blk_drew ?_ | refine blk_alloc ?_ _)); refine blk_far ?_ NB420_430.out _; (with_reducible repeat (first | refine blk_drewN ?_ _ | refine blk_drew ?_ | refine blk_alloc ?_ _)); refine blk_far ?_ NB420_430.out _; (with_reducible repeat (first | refine blk_drewN ?_ _ | refine blk_drew ?_ | refine blk_alloc ?_ _)); refine blk_far ?_ NB420_430.out _; (with_reducible repeat (first | refine blk_drewN ?_ _ | refine blk_drew ?_ | refine blk_alloc ?_ _)); refine blk_far ?_ NB420_430.out _; (with_reducible repeat (first | refine blk_drewN ?_ _ | refine blk_drew ?_ | refine blk_alloc ?_ _)); exact BK420.out⟩, ⟨by (with_reducible repeat (first | refine blk_drewN ?_ _ | refine blk_drew ?_ | refine blk_alloc ?_ _)); refine blk_put (cs := #[.string t423, .string t424, .slice Ao57 t425.length co57, .string (⟨#[]⟩ : ByteArray)]) ?_ 3 _ rfl; (with_reducible repeat (first | refine blk_drewN ?_ _ | refine blk_drew ?_ | refine blk_alloc ?_ _)); refine blk_put (cs := #[.string t423, .string t424, .slice none 0 0, .string (⟨#[]⟩ : ByteArray)]) ?_ 2 _ rfl; (with_reducible repeat (first | refine blk_drewN ?_ _ | refine blk_drew ?_ | refine blk_alloc ?_ _)); refine blk_put (cs := #[.string t423, .string (⟨#[]⟩ : ByteArray), .slice none 0 0, .string (⟨#[]⟩ : ByteArray)]) ?_ 1 _ rfl; (with_reducible repeat (first | refine blk_drewN ?_ _ | refine blk_drew ?_ | refine blk_alloc ?_ _)); refine blk_put (cs := #[.string (⟨#[]⟩ : ByteArray), .string (⟨#[]⟩ : ByteArray), .slice none 0 0, .string (⟨#[]⟩ : ByteArray)]) ?_ 0 _ rfl; (with_reducible repeat (first | refine blk_drewN ?_ _ | refine blk_drew ?_ | refine blk_alloc ?_ _)); exact BK430.out⟩, ⟨by repeat (first | (with_reducible first | exact HB.out | apply below_alloc | apply pw_below_drewN | apply below_drew1 | refine below_set ?_ GE420.out | refine below_set ?_ GE430.out) | exact HB.out)⟩⟩
                      ·rw [if_neg c60] at H
                       have c60b0 : ((t415.length : Int) == (wrap64 ((l1.length : Int) + 2))) = false := beq_eq_false_iff_ne.mpr c60
                       have c60b1 : ((t415.length : Int) != (wrap64 ((l1.length : Int) + 2))) = true := bne_iff_ne.mpr c60
                       have H' := Aside0.mk H
                       clear H
                       have hnb64 := NB420_430.out
                       have hnc64 := NB430_420.out
                       have hcz65_0 : w54.cell? ⟨gb420, 0, none⟩ = some (.string t413) := (blk_cell BK420.out 0).trans rfl
                       have hcz65_1 : w54.cell? ⟨gb420, 1, none⟩ = some (.string t414) := (blk_cell BK420.out 1).trans rfl
                       have hcz65_2 : w54.cell? ⟨gb420, 2, none⟩ = some (.slice Ao51 t415.length co51) := (blk_cell BK420.out 2).trans rfl
                       have hcz65_3 : w54.cell? ⟨gb420, 3, none⟩ = some (.string t418) := (blk_cell BK420.out 3).trans rfl
                       have hfz65_0 := blk_frozen BK420.out 0
                       have hfz65_1 := blk_frozen BK420.out 1
                       have hfz65_2 := blk_frozen BK420.out 2
                       have hfz65_3 := blk_frozen BK420.out 3
                       go_wp2
                       repeat (go_quiet (fail); try go_wp2)
                       go_meet
                       case rel => exact ⟨_, (true), zb6, H', ⟨by have := HJ7.out; have := HK2.out; first | omega | exact Nat.le_refl _⟩, ⟨by (with_reducible repeat (first | apply Kd.R_alloc | apply Kd.R_drewN | apply Kd.R_drew)); exact Kd.R_mono (Kd.R_far (p := ⟨gb430, 3, none⟩) (Kd.R_far (p := ⟨gb430, 2, none⟩) (Kd.R_far (p := ⟨gb430, 1, none⟩) (Kd.R_far (p := ⟨gb430, 0, none⟩) (Kd.R_types HO417.out BK430.out zb20) (fun _ hk => hk.2) (.string t423)) (fun _ hk => hk.2) (.string t424)) (fun _ hk => hk.2) (.slice Ao57 t425.length co57)) (fun _ hk => hk.2) (.string t428)) (fun _ hk => hk.1.2)⟩, ⟨by (with_reducible repeat (first | apply Kd.R_alloc | apply Kd.R_drewN | apply Kd.R_drew)); exact Kd.R_mono (Kd.R_far (p := ⟨gb430, 3, none⟩) (Kd.R_far (p := ⟨gb430, 2, none⟩) (Kd.R_far (p := ⟨gb430, 1, none⟩) (Kd.R_far (p := ⟨gb430, 0, none⟩) (Kd.R_types HO427.out BK430.out zb20) (fun _ hk => hk.2) (.string t423)) (fun _ hk => hk.2) (.string t424)) (fun _ hk => hk.2) (.slice Ao57 t425.length co57)) (fun _ hk => hk.2) (.string t428)) (fun _ hk => hk.1.2)⟩, ⟨by (with_reducible repeat (first | refine blk_drewN ?_ _ | refine blk_drew ?_ | refine blk_alloc ?_ _)); refine blk_far ?_ NB420_430.out _; (with_reducible repeat (first | refine blk_drewN ?_ _ | refine blk_drew ?_ | refine blk_alloc ?_ _)); refine blk_far ?_ NB420_430.out _; (with_reducible repeat (first | refine blk_drewN ?_ _ | refine blk_drew ?_ | refine blk_alloc ?_ _)); refine blk_far ?_ NB420_430.out _; (with_reducible repeat (first | refine blk_drewN ?_ _ | refine blk_drew ?_ | refine blk_alloc ?_ _)); refine blk_far ?_ NB420_430.out _; (with_reducible repeat (first | refine blk_drewN ?_ _ | refine blk_drew ?_ | refine blk_alloc ?_ _)); exact BK420.out⟩, ⟨by (with_reducible repeat (first | refine blk_drewN ?_ _ | refine blk_drew ?_ | refine blk_alloc ?_ _)); refine blk_put (cs := #[.string t423, .string t424, .slice Ao57 t425.length co57, .string (⟨#[]⟩ : ByteArray)]) ?_ 3 _ rfl; (with_reducible repeat (first | refine blk_drewN ?_ _ | refine blk_drew ?_ | refine blk_alloc ?_ _)); refine blk_put (cs := #[.string t423, .string t424, .slice none 0 0, .string (⟨#[]⟩ : ByteArray)]) ?_ 2 _ rfl; (with_reducible repeat (first | refine blk_drewN ?_ _ | refine blk_drew ?_ | refine blk_alloc ?_ _)); refine blk_put (cs := #[.string t423, .string (⟨#[]⟩ : ByteArray), .slice none 0 0, .string (⟨#[]⟩ : ByteArray)]) ?_ 1 _ rfl; (with_reducible repeat (first | refine blk_drewN ?_ _ | refine blk_drew ?_ | refine blk_alloc ?_ _)); refine blk_put (cs := #[.string (⟨#[]⟩ : ByteArray), .string (⟨#[]⟩ : ByteArray), .slice none 0 0, .string (⟨#[]⟩ : ByteArray)]) ?_ 0 _ rfl; (with_reducible repeat (first | refine blk_drewN ?_ _ | refine blk_drew ?_ | refine blk_alloc ?_ _)); exact BK430.out⟩, ⟨by repeat (first | (with_reducible first | exact HB.out | apply below_alloc | apply pw_below_drewN | apply below_drew1 | refine below_set ?_ GE420.out | refine below_set ?_ GE430.out) | exact HB.out)⟩⟩
                     ·rw [if_neg c59] at H
                      have c59b0 : (t429 == 0) = false := beq_eq_false_iff_ne.mpr c59
                      have c59b1 : (t429 != 0) = true := bne_iff_ne.mpr c59
                      have H' := Aside0.mk H
                      clear H
                      go_wp2
                      repeat (go_quiet (fail); try go_wp2)
                      go_meet
                      case rel => exact ⟨_, (true), zb6, H', ⟨by have := HJ7.out; have := HK2.out; first | omega | exact Nat.le_refl _⟩, ⟨by (with_reducible repeat (first | apply Kd.R_alloc | apply Kd.R_drewN | apply Kd.R_drew)); exact Kd.R_mono (Kd.R_far (p := ⟨gb430, 3, none⟩) (Kd.R_far (p := ⟨gb430, 2, none⟩) (Kd.R_far (p := ⟨gb430, 1, none⟩) (Kd.R_far (p := ⟨gb430, 0, none⟩) (Kd.R_types HO417.out BK430.out zb20) (fun _ hk => hk.2) (.string t423)) (fun _ hk => hk.2) (.string t424)) (fun _ hk => hk.2) (.slice Ao57 t425.length co57)) (fun _ hk => hk.2) (.string t428)) (fun _ hk => hk.1.2)⟩, ⟨by (with_reducible repeat (first | apply Kd.R_alloc | apply Kd.R_drewN | apply Kd.R_drew)); exact Kd.R_mono (Kd.R_far (p := ⟨gb430, 3, none⟩) (Kd.R_far (p := ⟨gb430, 2, none⟩) (Kd.R_far (p := ⟨gb430, 1, none⟩) (Kd.R_far (p := ⟨gb430, 0, none⟩) (Kd.R_types HO427.out BK430.out zb20) (fun _ hk => hk.2) (.string t423)) (fun _ hk => hk.2) (.string t424)) (fun _ hk => hk.2) (.slice Ao57 t425.length co57)) (fun _ hk => hk.2) (.string t428)) (fun _ hk => hk.1.2)⟩, ⟨by (with_reducible repeat (first | refine blk_drewN ?_ _ | refine blk_drew ?_ | refine blk_alloc ?_ _)); refine blk_far ?_ NB420_430.out _; (with_reducible repeat (first | refine blk_drewN ?_ _ | refine blk_drew ?_ | refine blk_alloc ?_ _)); refine blk_far ?_ NB420_430.out _; (with_reducible repeat (first | refine blk_drewN ?_ _ | refine blk_drew ?_ | refine blk_alloc ?_ _)); refine blk_far ?_ NB420_430.out _; (with_reducible repeat (first | refine blk_drewN ?_ _ | refine blk_drew ?_ | refine blk_alloc ?_ _)); refine blk_far ?_ NB420_430.out _; (with_reducible repeat (first | refine blk_drewN ?_ _ | refine blk_drew ?_ | refine blk_alloc ?_ _)); exact BK420.out⟩, ⟨by (with_reducible repeat (first | refine blk_drewN ?_ _ | refine blk_drew ?_ | refine blk_alloc ?_ _)); refine blk_put (cs := #[.string t423, .string t424, .slice Ao57 t425.length co57, .string (⟨#[]⟩ : ByteArray)]) ?_ 3 _ rfl; (with_reducible repeat (first | refine blk_drewN ?_ _ | refine blk_drew ?_ | refine blk_alloc ?_ _)); refine blk_put (cs := #[.string t423, .string t424, .slice none 0 0, .string (⟨#[]⟩ : ByteArray)]) ?_ 2 _ rfl; (with_reducible repeat (first | refine blk_drewN ?_ _ | refine blk_drew ?_ | refine blk_alloc ?_ _)); refine blk_put (cs := #[.string t423, .string (⟨#[]⟩ : ByteArray), .slice none 0 0, .string (⟨#[]⟩ : ByteArray)]) ?_ 1 _ rfl; (with_reducible repeat (first | refine blk_drewN ?_ _ | refine blk_drew ?_ | refine blk_alloc ?_ _)); refine blk_put (cs := #[.string (⟨#[]⟩ : ByteArray), .string (⟨#[]⟩ : ByteArray), .slice none 0 0, .string (⟨#[]⟩ : ByteArray)]) ?_ 0 _ rfl; (with_reducible repeat (first | refine blk_drewN ?_ _ | refine blk_drew ?_ | refine blk_alloc ?_ _)); exact BK430.out⟩, ⟨by repeat (first | (with_reducible first | exact HB.out | apply below_alloc | apply pw_below_drewN | apply below_drew1 | refine below_set ?_ GE420.out | refine below_set ?_ GE430.out) | exact HB.out)⟩⟩
                    ·rw [if_neg c58] at H
                     have c58b0 : (t419 == 0) = false := beq_eq_false_iff_ne.mpr c58
                     have c58b1 : (t419 != 0) = true := bne_iff_ne.mpr c58
                     (first | rw [c58b0] | (simp only [i64_w, i32_w]; rw [c58b0]) | skip)
                     have H' := Aside0.mk H
                     clear H
                     go_wp2
                     repeat (go_quiet (fail); try go_wp2)
                     go_meet
                     case rel => exact ⟨_, (true), zb6, H', ⟨by have := HJ7.out; have := HK2.out; first | omega | exact Nat.le_refl _⟩, ⟨by (with_reducible repeat (first | apply Kd.R_alloc | apply Kd.R_drewN | apply Kd.R_drew)); exact Kd.R_mono (Kd.R_far (p := ⟨gb430, 3, none⟩) (Kd.R_far (p := ⟨gb430, 2, none⟩) (Kd.R_far (p := ⟨gb430, 1, none⟩) (Kd.R_far (p := ⟨gb430, 0, none⟩) (Kd.R_types HO417.out BK430.out zb20) (fun _ hk => hk.2) (.string t423)) (fun _ hk => hk.2) (.string t424)) (fun _ hk => hk.2) (.slice Ao57 t425.length co57)) (fun _ hk => hk.2) (.string t428)) (fun _ hk => hk.1.2)⟩, ⟨by (with_reducible repeat (first | apply Kd.R_alloc | apply Kd.R_drewN | apply Kd.R_drew)); exact Kd.R_mono (Kd.R_far (p := ⟨gb430, 3, none⟩) (Kd.R_far (p := ⟨gb430, 2, none⟩) (Kd.R_far (p := ⟨gb430, 1, none⟩) (Kd.R_far (p := ⟨gb430, 0, none⟩) (Kd.R_types HO427.out BK430.out zb20) (fun _ hk => hk.2) (.string t423)) (fun _ hk => hk.2) (.string t424)) (fun _ hk => hk.2) (.slice Ao57 t425.length co57)) (fun _ hk => hk.2) (.string t428)) (fun _ hk => hk.1.2)⟩, ⟨by (with_reducible repeat (first | refine blk_drewN ?_ _ | refine blk_drew ?_ | refine blk_alloc ?_ _)); refine blk_far ?_ NB420_430.out _; (with_reducible repeat (first | refine blk_drewN ?_ _ | refine blk_drew ?_ | refine blk_alloc ?_ _)); refine blk_far ?_ NB420_430.out _; (with_reducible repeat (first | refine blk_drewN ?_ _ | refine blk_drew ?_ | refine blk_alloc ?_ _)); refine blk_far ?_ NB420_430.out _; (with_reducible repeat (first | refine blk_drewN ?_ _ | refine blk_drew ?_ | refine blk_alloc ?_ _)); refine blk_far ?_ NB420_430.out _; (with_reducible repeat (first | refine blk_drewN ?_ _ | refine blk_drew ?_ | refine blk_alloc ?_ _)); exact BK420.out⟩, ⟨by (with_reducible repeat (first | refine blk_drewN ?_ _ | refine blk_drew ?_ | refine blk_alloc ?_ _)); refine blk_put (cs := #[.string t423, .string t424, .slice Ao57 t425.length co57, .string (⟨#[]⟩ : ByteArray)]) ?_ 3 _ rfl; (with_reducible repeat (first | refine blk_drewN ?_ _ | refine blk_drew ?_ | refine blk_alloc ?_ _)); refine blk_put (cs := #[.string t423, .string t424, .slice none 0 0, .string (⟨#[]⟩ : ByteArray)]) ?_ 2 _ rfl; (with_reducible repeat (first | refine blk_drewN ?_ _ | refine blk_drew ?_ | refine blk_alloc ?_ _)); refine blk_put (cs := #[.string t423, .string (⟨#[]⟩ : ByteArray), .slice none 0 0, .string (⟨#[]⟩ : ByteArray)]) ?_ 1 _ rfl; (with_reducible repeat (first | refine blk_drewN ?_ _ | refine blk_drew ?_ | refine blk_alloc ?_ _)); refine blk_put (cs := #[.string (⟨#[]⟩ : ByteArray), .string (⟨#[]⟩ : ByteArray), .slice none 0 0, .string (⟨#[]⟩ : ByteArray)]) ?_ 0 _ rfl; (with_reducible repeat (first | refine blk_drewN ?_ _ | refine blk_drew ?_ | refine blk_alloc ?_ _)); exact BK430.out⟩, ⟨by repeat (first | (with_reducible first | exact HB.out | apply below_alloc | apply pw_below_drewN | apply below_drew1 | refine below_set ?_ GE420.out | refine below_set ?_ GE430.out) | exact HB.out)⟩⟩
                   case rest =>
                    clear HC43
                    try clear c1
                    try clear p1
                    try clear q1
                    try clear hx1
                    try clear c2
                    try clear p2
                    try clear q2
                    try clear hx2
                    try clear c3
                    try clear c4
                    try clear c5
                    try clear c6
                    try clear p6
                    try clear c7
                    try clear c10
                    try clear c10b0
                    try clear c10b1
                    try clear c11
                    try clear c11b0
                    try clear c11b1
                    try clear c12
                    try clear c12b0
                    try clear c12b1
                    try clear c13
                    try clear c14
                    try clear c14b0
                    try clear c15
                    try clear c15b0
                    try clear p16
                    try clear q16
                    try clear hx16
                    try clear c17
                    try clear c17b0
                    try clear p18
                    try clear q18
                    try clear hx18
                    try clear c19
                    try clear c19b0
                    try clear p20
                    try clear q20
                    try clear hx20
                    try clear c21
                    try clear c21b0
                    try clear c21b1
                    try clear c25
                    try clear c25b0
                    try clear c29
                    try clear c29b0
                    try clear c29b1
                    try clear c29b2
                    try clear c30
                    try clear c30b0
                    try clear c30b1
                    try clear c30b2
                    try clear c31
                    try clear c31b0
                    try clear c31b1
                    try clear c31b2
                    try clear c33
                    try clear c33b0
                    try clear c33b1
                    try clear c33b2
                    try clear c34
                    try clear c34b0
                    try clear c34b1
                    try clear c34b2
                    try clear c35
                    try clear c35b0
                    try clear c35b1
                    try clear c35b2
                    try clear c36
                    try clear c36b0
                    try clear c36b1
                    try clear c36b2
                    try clear c39
                    try clear c39b0
                    try clear c39b1
                    try clear c39b2
                    try clear c40
                    try clear c40b0
                    try clear c40b1
                    try clear c40b2
                    try clear c41
                    try clear c41b0
                    try clear c41b1
                    try clear c41b2
                    try clear c55
                    try clear c58
                    try clear c58b0
                    try clear c58b1
                    try clear c59
                    try clear c59b0
                    try clear c59b1
                    try clear c60
                    try clear c60b0
                    try clear c60b1
                    try clear c61
                    try clear c64
                    try clear p64
                    try clear hcz50_0
                    try clear hcz50_1
                    try clear hcz50_2
                    try clear hcz50_3
                    try clear hcz56_0
                    try clear hcz56_1
                    try clear hcz56_2
                    try clear hcz56_3
                    try clear hcz62_0
                    try clear hcz62_1
                    try clear hcz62_2
                    try clear hcz62_3
                    try clear hcz63_0
                    try clear hcz63_1
                    try clear hcz63_2
                    try clear hcz63_3
                    try clear hcz65_0
                    try clear hcz65_1
                    try clear hcz65_2
                    try clear hcz65_3
                    try clear hfz50_0
                    try clear hfz50_1
                    try clear hfz50_2
                    try clear hfz50_3
                    try clear hfz56_0
                    try clear hfz56_1
                    try clear hfz56_2
                    try clear hfz56_3
                    try clear hfz62_0
                    try clear hfz62_1
                    try clear hfz62_2
                    try clear hfz62_3
                    try clear hfz63_0
                    try clear hfz63_1
                    try clear hfz63_2
                    try clear hfz63_3
                    try clear hfz65_0
                    try clear hfz65_1
                    try clear hfz65_2
                    try clear hfz65_3
                    try clear p16
                    try clear p18
                    try clear p2
                    try clear p20
                    try clear q16
                    try clear q18
                    try clear q20
                    obtain ⟨kq, x157_42, rfl, HA, HJ42, HO_421002, HO_431002, BK420, BK430, HB⟩ := hcut
                    cases kq with
                    | zero => exact absurd HA.out (by simp [broadsheetlaw20_RequestBack.j2])
                    | succ kj42 =>
                     have H := HA.out
                     clear HA
                     simp only [broadsheetlaw20_RequestBack.j2] at H
                     by_cases c66 : x157_42 = true
                     ·subst c66
                      replace H : (some false) = some r := by first | (rw [if_pos rfl] at H; exact H) | (rw [if_pos trivial] at H; exact H)
                      exact absurd ((Option.some.inj H).trans hr) zb20
                     ·replace c66 := Bool.eq_false_iff.mpr c66
                      subst c66
                      replace H : (broadsheetlaw20_RequestBack.l1 kj42 a0 l1 a2 true 0 t413 t414 t415 t418 t423 t424 t425 t428) = some r := by rw [if_neg (show ¬ (false = true) by decide)] at H; exact H
                      have H' := Aside0.mk H
                      clear H
                      go_wp2
                      repeat (go_quiet (fail); try go_wp2)
                      first | go_loopg [26] kj42 (fun kq v26 w' => ∃ (x26_4 : Int), v26 = .int .i64 x26_4 ∧ Aside0 (broadsheetlaw20_RequestBack.l1 kq a0 l1 a2 true x26_4 t413 t414 t415 t418 t423 t424 t425 t428 = some r) ∧ Aside0 (kq ≤ kj42) ∧ Aside0 (Kd.R k49 49 w' w.heap.size (fun k_ => some k_ ≠ ((.slice Ao57 t425.length co57) : Value).ownBlock) (.slice Ao51 t415.length co51) t415) ∧ Aside0 (Kd.R k49 49 w' w.heap.size (fun k_ => some k_ ≠ ((.slice Ao51 t415.length co51) : Value).ownBlock) (.slice Ao57 t425.length co57) t425) ∧ Aside0 (w'.heap[gb420]? = some (.cells #[.string t413, .string t414, (.slice Ao51 t415.length co51), .string t418] 36 (0, 0))) ∧ Aside0 (w'.heap[gb430]? = some (.cells #[.string t423, .string t424, (.slice Ao57 t425.length co57), .string t428] 36 (0, 0))) ∧ Aside0 (Below w.heap.size w w')) | (go_simp; go_loopg [26] kj42 (fun kq v26 w' => ∃ (x26_4 : Int), v26 = .int .i64 x26_4 ∧ Aside0 (broadsheetlaw20_RequestBack.l1 kq a0 l1 a2 true x26_4 t413 t414 t415 t418 t423 t424 t425 t428 = some r) ∧ Aside0 (kq ≤ kj42) ∧ Aside0 (Kd.R k49 49 w' w.heap.size (fun k_ => some k_ ≠ ((.slice Ao57 t425.length co57) : Value).ownBlock) (.slice Ao51 t415.length co51) t415) ∧ Aside0 (Kd.R k49 49 w' w.heap.size (fun k_ => some k_ ≠ ((.slice Ao51 t415.length co51) : Value).ownBlock) (.slice Ao57 t425.length co57) t425) ∧ Aside0 (w'.heap[gb420]? = some (.cells #[.string t413, .string t414, (.slice Ao51 t415.length co51), .string t418] 36 (0, 0))) ∧ Aside0 (w'.heap[gb430]? = some (.cells #[.string t423, .string t424, (.slice Ao57 t425.length co57), .string t428] 36 (0, 0))) ∧ Aside0 (Below w.heap.size w w')))
                      case atStart => exact ⟨(0), zb6, H', ⟨Nat.le_refl _⟩, ⟨by (with_reducible repeat (first | apply Kd.R_alloc | apply Kd.R_drewN | apply Kd.R_drew)); exact HO_421002.out⟩, ⟨by (with_reducible repeat (first | apply Kd.R_alloc | apply Kd.R_drewN | apply Kd.R_drew)); exact HO_431002.out⟩, ⟨by (with_reducible repeat (first | refine blk_drewN ?_ _ | refine blk_drew ?_ | refine blk_alloc ?_ _)); exact BK420.out⟩, ⟨by (with_reducible repeat (first | refine blk_drewN ?_ _ | refine blk_drew ?_ | refine blk_alloc ?_ _)); exact BK430.out⟩, ⟨by repeat (first | (with_reducible first | exact HB.out | apply below_alloc | apply pw_below_drewN | apply below_drew1 | refine below_set ?_ GE420.out | refine below_set ?_ GE430.out) | exact HB.out)⟩⟩
                      case round =>
                       clear H'
                       try clear c1
                       try clear p1
                       try clear q1
                       try clear hx1
                       try clear c2
                       try clear p2
                       try clear q2
                       try clear hx2
                       try clear c3
                       try clear c4
                       try clear c5
                       try clear c6
                       try clear p6
                       try clear c7
                       try clear c10
                       try clear c10b0
                       try clear c10b1
                       try clear c11
                       try clear c11b0
                       try clear c11b1
                       try clear c12
                       try clear c12b0
                       try clear c12b1
                       try clear c13
                       try clear c14
                       try clear c14b0
                       try clear c15
                       try clear c15b0
                       try clear p16
                       try clear q16
                       try clear hx16
                       try clear c17
                       try clear c17b0
                       try clear p18
                       try clear q18
                       try clear hx18
                       try clear c19
                       try clear c19b0
                       try clear p20
                       try clear q20
                       try clear hx20
                       try clear c21
                       try clear c21b0
                       try clear c21b1
                       try clear c25
                       try clear c25b0
                       try clear c29
                       try clear c29b0
                       try clear c29b1
                       try clear c29b2
                       try clear c30
                       try clear c30b0
                       try clear c30b1
                       try clear c30b2
                       try clear c31
                       try clear c31b0
                       try clear c31b1
                       try clear c31b2
                       try clear c33
                       try clear c33b0
                       try clear c33b1
                       try clear c33b2
                       try clear c34
                       try clear c34b0
                       try clear c34b1
                       try clear c34b2
                       try clear c35
                       try clear c35b0
                       try clear c35b1
                       try clear c35b2
                       try clear c36
                       try clear c36b0
                       try clear c36b1
                       try clear c36b2
                       try clear c39
                       try clear c39b0
                       try clear c39b1
                       try clear c39b2
                       try clear c40
                       try clear c40b0
                       try clear c40b1
                       try clear c40b2
                       try clear c41
                       try clear c41b0
                       try clear c41b1
                       try clear c41b2
                       try clear c55
                       try clear c58
                       try clear c58b0
                       try clear c58b1
                       try clear c59
                       try clear c59b0
                       try clear c59b1
                       try clear c60
                       try clear c60b0
                       try clear c60b1
                       try clear c61
                       try clear c64
                       try clear p64
                       try clear c66
                       try clear hcz50_0
                       try clear hcz50_1
                       try clear hcz50_2
                       try clear hcz50_3
                       try clear hcz56_0
                       try clear hcz56_1
                       try clear hcz56_2
                       try clear hcz56_3
                       try clear hcz62_0
                       try clear hcz62_1
                       try clear hcz62_2
                       try clear hcz62_3
                       try clear hcz63_0
                       try clear hcz63_1
                       try clear hcz63_2
                       try clear hcz63_3
                       try clear hcz65_0
                       try clear hcz65_1
                       try clear hcz65_2
                       try clear hcz65_3
                       try clear hfz50_0
                       try clear hfz50_1
                       try clear hfz50_2
                       try clear hfz50_3
                       try clear hfz56_0
                       try clear hfz56_1
                       try clear hfz56_2
                       try clear hfz56_3
                       try clear hfz62_0
                       try clear hfz62_1
                       try clear hfz62_2
                       try clear hfz62_3
                       try clear hfz63_0
                       try clear hfz63_1
                       try clear hfz63_2
                       try clear hfz63_3
                       try clear hfz65_0
                       try clear hfz65_1
                       try clear hfz65_2
                       try clear hfz65_3
                       try clear p1
                       try clear p16
                       try clear p18
                       try clear p2
                       try clear p20
                       try clear p6
                       try clear p64
                       try clear q1
                       try clear q16
                       try clear q18
                       try clear q2
                       try clear q20
                       obtain ⟨x26_4, rfl, HA, HK4, HO_421002, HO_431002, BK420, BK430, HB⟩ := hrel
                       cases gk with
                       | zero => exact absurd HA.out (by simp [broadsheetlaw20_RequestBack.l1])
                       | succ k4 =>
                        have H := HA.out
                        clear HA
                        simp only [broadsheetlaw20_RequestBack.l1] at H
                        by_cases c67 : x26_4 < (l1.length : Int)
                        ·rw [if_pos c67] at H
                         have c67b0 : decide (x26_4 < (l1.length : Int)) = true := decide_eq_true c67
                         clear c67
                         obtain ⟨ji68, hji68⟩ : ∃ j_ : Int, (wrap64 (x26_4 + 2)) = j_ := ⟨_, rfl⟩
                         replace H : (if 0 ≤ (ji68) then (if (ji68) < (t415.length : Int) then (if 0 ≤ x26_4 then (if ((rd_T49 t415 (ji68)).f1).toList = ((rd_T49 l1 x26_4).f1).toList then (if (ji68) < (t425.length : Int) then (if ((rd_T49 t425 (ji68)).f1).toList = ((rd_T49 l1 x26_4).f1).toList then (broadsheetlaw20_RequestBack.l1 k4 a0 l1 a2 true (wrap64 (x26_4 + 1)) t413 t414 t415 t418 t423 t424 t425 t428) else (some false)) else (none)) else (some false)) else (none)) else (none)) else (none)) = some r := by first | (rw [hji68] at H; exact H) | (simp only [hji68] at H ⊢; exact H)
                         have hji68w : (IntKind.i64.wrap (x26_4 + 2)) = ji68 := (i64_w _).trans hji68
                         by_cases c69 : 0 ≤ (ji68)
                         ·rw [if_pos c69] at H
                          have c69b0 : decide (0 ≤ (ji68)) = true := decide_eq_true c69
                          clear c69
                          by_cases c70 : (ji68) < (t415.length : Int)
                          ·rw [if_pos c70] at H
                           have c70b0 : decide ((ji68) < (t415.length : Int)) = true := decide_eq_true c70
                           clear c70
                           by_cases c71 : 0 ≤ x26_4
                           ·rw [if_pos c71] at H
                            have c71b0 : decide (0 ≤ x26_4) = true := decide_eq_true c71
                            clear c71
                            by_cases c72 : ((rd_T49 t415 (ji68)).f1).toList = ((rd_T49 l1 x26_4).f1).toList
                            ·rw [if_pos c72] at H
                             have c72b0 : (((rd_T49 t415 (ji68)).f1).toList == ((rd_T49 l1 x26_4).f1).toList) = true := beq_iff_eq.mpr c72
                             have c72b1 : (((rd_T49 t415 (ji68)).f1).toList != ((rd_T49 l1 x26_4).f1).toList) = false := bne_eq_false_iff_eq.mpr c72
                             clear c72
                             by_cases c73 : (ji68) < (t425.length : Int)
                             ·rw [if_pos c73] at H
                              have c73b0 : decide ((ji68) < (t425.length : Int)) = true := decide_eq_true c73
                              clear c73
                              by_cases c74 : ((rd_T49 t425 (ji68)).f1).toList = ((rd_T49 l1 x26_4).f1).toList
                              ·rw [if_pos c74] at H
                               have c74b0 : (((rd_T49 t425 (ji68)).f1).toList == ((rd_T49 l1 x26_4).f1).toList) = true := beq_iff_eq.mpr c74
                               have c74b1 : (((rd_T49 t425 (ji68)).f1).toList != ((rd_T49 l1 x26_4).f1).toList) = false := bne_eq_false_iff_eq.mpr c74
                               clear c74
                               have H' := Aside0.mk H
                               clear H
                               have hnb75 := NB420_430.out
                               have hnc75 := NB430_420.out
                               have hcz76_0 : wr.cell? ⟨gb420, 0, none⟩ = some (.string t413) := (blk_cell BK420.out 0).trans rfl
                               have hcz76_1 : wr.cell? ⟨gb420, 1, none⟩ = some (.string t414) := (blk_cell BK420.out 1).trans rfl
                               have hcz76_2 : wr.cell? ⟨gb420, 2, none⟩ = some (.slice Ao51 t415.length co51) := (blk_cell BK420.out 2).trans rfl
                               have hcz76_3 : wr.cell? ⟨gb420, 3, none⟩ = some (.string t418) := (blk_cell BK420.out 3).trans rfl
                               have hfz76_0 := blk_frozen BK420.out 0
                               have hfz76_1 := blk_frozen BK420.out 1
                               have hfz76_2 := blk_frozen BK420.out 2
                               have hfz76_3 := blk_frozen BK420.out 3
                               have p431 : 0 ≤ ((ji68) : Int) := of_decide_eq_true zb2
                               have q431 : (ji68) < (t415.length : Int) := of_decide_eq_true zb2
                               obtain ⟨ad431, e431, hx431_0, hx431_1⟩ := at_T49 (Kd.R_reads' HO_421002.out).2.2 (ji68) p431 q431
                               cases e431
                               replace p431 := eq_true p431
                               replace q431 := eq_true q431
                               have p432 : 0 ≤ (x26_4 : Int) := of_decide_eq_true zb2
                               have q432 : x26_4 < (l1.length : Int) := of_decide_eq_true zb2
                               obtain ⟨ad432, e432, hx432_0, hx432_1⟩ := at_T49 HR1.out x26_4 p432 q432
                               cases e432
                               replace hx432_0 := (HB.out.cell (World.block_lt_of_cell? w _ hx432_0)).trans hx432_0
                               replace hx432_1 := (HB.out.cell (World.block_lt_of_cell? w _ hx432_1)).trans hx432_1
                               replace p432 := eq_true p432
                               replace q432 := eq_true q432
                               have hcz77_0 : wr.cell? ⟨gb430, 0, none⟩ = some (.string t423) := (blk_cell BK430.out 0).trans rfl
                               have hcz77_1 : wr.cell? ⟨gb430, 1, none⟩ = some (.string t424) := (blk_cell BK430.out 1).trans rfl
                               have hcz77_2 : wr.cell? ⟨gb430, 2, none⟩ = some (.slice Ao57 t425.length co57) := (blk_cell BK430.out 2).trans rfl
                               have hcz77_3 : wr.cell? ⟨gb430, 3, none⟩ = some (.string t428) := (blk_cell BK430.out 3).trans rfl
                               have hfz77_0 := blk_frozen BK430.out 0
                               have hfz77_1 := blk_frozen BK430.out 1
                               have hfz77_2 := blk_frozen BK430.out 2
                               have hfz77_3 := blk_frozen BK430.out 3
                               have p433 : 0 ≤ ((ji68) : Int) := of_decide_eq_true zb2
                               have q433 : (ji68) < (t425.length : Int) := of_decide_eq_true zb2
                               obtain ⟨ad433, e433, hx433_0, hx433_1⟩ := at_T49 (Kd.R_reads' HO_431002.out).2.2 (ji68) p433 q433
                               cases e433
                               replace p433 := eq_true p433
                               replace q433 := eq_true q433
                               have p434 : 0 ≤ (x26_4 : Int) := of_decide_eq_true zb2
                               have q434 : x26_4 < (l1.length : Int) := of_decide_eq_true zb2
                               obtain ⟨ad434, e434, hx434_0, hx434_1⟩ := at_T49 HR1.out x26_4 p434 q434
                               obtain rfl : ad432 = ad434 := (by injection e434)
                               replace hx434_0 := (HB.out.cell (World.block_lt_of_cell? w _ hx434_0)).trans hx434_0
                               replace hx434_1 := (HB.out.cell (World.block_lt_of_cell? w _ hx434_1)).trans hx434_1
                               replace p434 := eq_true p434
                               replace q434 := eq_true q434
                               go_wp2
                               repeat (go_quiet (fail); try go_wp2)
                               go_roundg k4
                               case measure => have := HJ7.out; have := HK2.out; have := HJ42.out; have := HK4.out; omega
                               case rel => exact ⟨(wrap64 (x26_4 + 1)), zb6, H', ⟨by have := HJ7.out; have := HK2.out; have := HJ42.out; have := HK4.out; omega⟩, ⟨by (with_reducible repeat (first | apply Kd.R_alloc | apply Kd.R_drewN | apply Kd.R_drew)); exact HO_421002.out⟩, ⟨by (with_reducible repeat (first | apply Kd.R_alloc | apply Kd.R_drewN | apply Kd.R_drew)); exact HO_431002.out⟩, ⟨by (with_reducible repeat (first | refine blk_drewN ?_ _ | refine blk_drew ?_ | refine blk_alloc ?_ _)); exact BK420.out⟩, ⟨by (with_reducible repeat (first | refine blk_drewN ?_ _ | refine blk_drew ?_ | refine blk_alloc ?_ _)); exact BK430.out⟩, ⟨by repeat (first | (with_reducible first | exact HB.out | apply below_alloc | apply pw_below_drewN | apply below_drew1 | refine below_set ?_ GE420.out | refine below_set ?_ GE430.out) | exact HB.out)⟩⟩
                              ·rw [if_neg c74] at H
                               have c74b0 : (((rd_T49 t425 (ji68)).f1).toList == ((rd_T49 l1 x26_4).f1).toList) = false := beq_eq_false_iff_ne.mpr c74
                               have c74b1 : (((rd_T49 t425 (ji68)).f1).toList != ((rd_T49 l1 x26_4).f1).toList) = true := bne_iff_ne.mpr c74
                               exact absurd ((Option.some.inj H).trans hr) zb20
                             ·rw [if_neg c73] at H
                              exact absurd H zb25
                            ·rw [if_neg c72] at H
                             have c72b0 : (((rd_T49 t415 (ji68)).f1).toList == ((rd_T49 l1 x26_4).f1).toList) = false := beq_eq_false_iff_ne.mpr c72
                             have c72b1 : (((rd_T49 t415 (ji68)).f1).toList != ((rd_T49 l1 x26_4).f1).toList) = true := bne_iff_ne.mpr c72
                             exact absurd ((Option.some.inj H).trans hr) zb20
                           ·rw [if_neg c71] at H
                            exact absurd H zb25
                          ·rw [if_neg c70] at H
                           exact absurd H zb25
                         ·rw [if_neg c69] at H
                          exact absurd H zb25
                        ·rw [if_neg c67] at H
                         have c67b0 : decide (x26_4 < (l1.length : Int)) = false := decide_eq_false c67
                         clear c67
                         replace H : (if t413.toList = ([80, 79, 83, 84] : List UInt8) then (if 1 + a0.size ≤ 9223372036854775807 then (if t414.toList = ((⟨#[47]⟩ : ByteArray) ++ a0).toList then (if t418.toList = a2.toList then (if t424.toList = ((⟨#[47]⟩ : ByteArray) ++ a0).toList then (some (t428.toList == a2.toList)) else (some false)) else (some false)) else (some false)) else (none)) else (some false)) = some r := by first | (rw [if_pos rfl] at H; exact H) | (rw [if_pos trivial] at H; exact H)
                         by_cases c83 : t413.toList = ([80, 79, 83, 84] : List UInt8)
                         ·rw [if_pos c83] at H
                          have c83b0 : (t413.toList == ([80, 79, 83, 84] : List UInt8)) = true := beq_iff_eq.mpr c83
                          have c83b1 : (t413.toList != ([80, 79, 83, 84] : List UInt8)) = false := bne_eq_false_iff_eq.mpr c83
                          clear c83
                          by_cases c84 : 1 + a0.size ≤ 9223372036854775807
                          ·rw [if_pos c84] at H
                           have c84b0 := eq_true c84
                           have c84b1 : decide (1 + a0.size ≤ 9223372036854775807) = true := decide_eq_true c84
                           try have c84b2 : (9223372036854775807 < 1 + a0.size) = False := eq_false (Nat.not_lt.2 c84)
                           by_cases c85 : t414.toList = ((⟨#[47]⟩ : ByteArray) ++ a0).toList
                           ·rw [if_pos c85] at H
                            have c85b0 : (t414.toList == ((⟨#[47]⟩ : ByteArray) ++ a0).toList) = true := beq_iff_eq.mpr c85
                            have c85b1 : (t414.toList != ((⟨#[47]⟩ : ByteArray) ++ a0).toList) = false := bne_eq_false_iff_eq.mpr c85
                            clear c85
                            by_cases c86 : t418.toList = a2.toList
                            ·rw [if_pos c86] at H
                             have c86b0 : (t418.toList == a2.toList) = true := beq_iff_eq.mpr c86
                             have c86b1 : (t418.toList != a2.toList) = false := bne_eq_false_iff_eq.mpr c86
                             clear c86
                             by_cases c87 : t424.toList = ((⟨#[47]⟩ : ByteArray) ++ a0).toList
                             ·rw [if_pos c87] at H
                              have c87b0 : (t424.toList == ((⟨#[47]⟩ : ByteArray) ++ a0).toList) = true := beq_iff_eq.mpr c87
                              have c87b1 : (t424.toList != ((⟨#[47]⟩ : ByteArray) ++ a0).toList) = false := bne_eq_false_iff_eq.mpr c87
                              clear c87
                              obtain rfl := Option.some.inj H
                              have hnb88 := NB420_430.out
                              have hnc88 := NB430_420.out
                              have hcz89_0 : wr.cell? ⟨gb420, 0, none⟩ = some (.string t413) := (blk_cell BK420.out 0).trans rfl
                              have hcz89_1 : wr.cell? ⟨gb420, 1, none⟩ = some (.string t414) := (blk_cell BK420.out 1).trans rfl
                              have hcz89_2 : wr.cell? ⟨gb420, 2, none⟩ = some (.slice Ao51 t415.length co51) := (blk_cell BK420.out 2).trans rfl
                              have hcz89_3 : wr.cell? ⟨gb420, 3, none⟩ = some (.string t418) := (blk_cell BK420.out 3).trans rfl
                              have hfz89_0 := blk_frozen BK420.out 0
                              have hfz89_1 := blk_frozen BK420.out 1
                              have hfz89_2 := blk_frozen BK420.out 2
                              have hfz89_3 := blk_frozen BK420.out 3
                              have hcz90_0 : wr.cell? ⟨gb430, 0, none⟩ = some (.string t423) := (blk_cell BK430.out 0).trans rfl
                              have hcz90_1 : wr.cell? ⟨gb430, 1, none⟩ = some (.string t424) := (blk_cell BK430.out 1).trans rfl
                              have hcz90_2 : wr.cell? ⟨gb430, 2, none⟩ = some (.slice Ao57 t425.length co57) := (blk_cell BK430.out 2).trans rfl
                              have hcz90_3 : wr.cell? ⟨gb430, 3, none⟩ = some (.string t428) := (blk_cell BK430.out 3).trans rfl
                              have hfz90_0 := blk_frozen BK430.out 0
                              have hfz90_1 := blk_frozen BK430.out 1
                              have hfz90_2 := blk_frozen BK430.out 2
                              have hfz90_3 := blk_frozen BK430.out 3
                              go_wp2
                              repeat (go_quiet (fail); try go_wp2)
                              go_ret
                              exact ⟨zb4, (by repeat (first | (with_reducible first | exact HB.out | apply below_alloc | apply pw_below_drewN | apply below_drew1 | refine below_set ?_ GE420.out | refine below_set ?_ GE430.out) | exact HB.out))⟩
                             ·rw [if_neg c87] at H
                              have c87b0 : (t424.toList == ((⟨#[47]⟩ : ByteArray) ++ a0).toList) = false := beq_eq_false_iff_ne.mpr c87
                              have c87b1 : (t424.toList != ((⟨#[47]⟩ : ByteArray) ++ a0).toList) = true := bne_iff_ne.mpr c87
                              exact absurd ((Option.some.inj H).trans hr) zb20
                            ·rw [if_neg c86] at H
                             have c86b0 : (t418.toList == a2.toList) = false := beq_eq_false_iff_ne.mpr c86
                             have c86b1 : (t418.toList != a2.toList) = true := bne_iff_ne.mpr c86
                             exact absurd ((Option.some.inj H).trans hr) zb20
                           ·rw [if_neg c85] at H
                            have c85b0 : (t414.toList == ((⟨#[47]⟩ : ByteArray) ++ a0).toList) = false := beq_eq_false_iff_ne.mpr c85
                            have c85b1 : (t414.toList != ((⟨#[47]⟩ : ByteArray) ++ a0).toList) = true := bne_iff_ne.mpr c85
                            exact absurd ((Option.some.inj H).trans hr) zb20
                          ·rw [if_neg c84] at H
                           exact absurd H zb25
                         ·rw [if_neg c83] at H
                          have c83b0 : (t413.toList == ([80, 79, 83, 84] : List UInt8)) = false := beq_eq_false_iff_ne.mpr c83
                          have c83b1 : (t413.toList != ([80, 79, 83, 84] : List UInt8)) = true := bne_iff_ne.mpr c83
                          exact absurd ((Option.some.inj H).trans hr) zb20
                  ·rw [if_neg c41] at H
                   exact absurd H zb25
                 ·rw [if_neg c40] at H
                  exact absurd H zb25
                ·rw [if_neg c39] at H
                 exact absurd H zb25
               ·rw [if_neg c36] at H
                exact absurd H zb25
              ·rw [if_neg c35] at H
               exact absurd H zb25
             ·rw [if_neg c34] at H
              exact absurd H zb25
            ·rw [if_neg c33] at H
             exact absurd H zb25
           ·rw [if_neg c31] at H
            exact absurd H zb25
          ·rw [if_neg c30] at H
           exact absurd H zb25
         ·rw [if_neg c29] at H
          exact absurd H zb25
 ·replace c6 := Bool.eq_false_iff.mpr c6
  subst c6
  replace H : (some false) = some r := by rw [if_neg (show ¬ (false = true) by decide)] at H; exact H
  exact absurd ((Option.some.inj H).trans hr) zb20
end Go.Proofs.YteonhdfjfjpbjaaGreatDoor.P
/- SpX -/
namespace Go.Proofs.YteonhdfjfjpbjaaGreatDoor.Sp
open Go Go.RowKit Go.Proofs.YteonhdfjfjpbjaaGreatDoorW.PrintWords Go.Proofs.YteonhdfjfjpbjaaGreatDoorW.PrintLast Go.Proofs.YteonhdfjfjpbjaaGreatDoor.O Go.Proofs.YteonhdfjfjpbjaaGreatDoor.P
set_option linter.unusedVariables false
set_option linter.unusedSimpArgs false
def okP (p : L × L) : Bool := isTok p.1 && fval p.2
def prs : List (L × L) → L
  | [] => []
  | p :: r => p.1 ++ 58 :: 32 :: (p.2 ++ 13 :: 10 :: prs r)
def lowP (p : L × L) : L × L := (low p.1, p.2)
/-- The lines of fields, and the error. -/
def printS (l : List (L × L)) : L × Int := if l.all okP = true then (if 8000 < (prs l ++ [13, 10]).length then ([], 2) else (prs l ++ [13, 10], 0)) else ([], 180)
theorem prs_len (l : List (L × L)) : 4 * l.length ≤ (prs l).length := by
  induction l with
  | nil => simp [prs]
  | cons p r ih =>
    simp only [prs, List.length_append, List.length_cons]
    omega
theorem line13 (a b : L) (h : 13 ∉ a) : line (a ++ 13 :: 10 :: b) = some (a, b) :=
  line_app a b (fun x y e => h (by rw [e]; simp)) (fun e => h (List.mem_of_getLast? e))
theorem tok13 : tokB 13 = false := by decide
theorem fval_13 {v : L} (h : fval v = true) : 13 ∉ v := fun hm => by
  unfold fval at h
  rw [Bool.and_eq_true] at h
  have := List.all_eq_true.1 h.1 13 hm
  exact absurd this (by decide)
theorem fval_trim {v : L} (h : fval v = true) : trim v = v := by
  unfold fval at h
  rw [Bool.and_eq_true] at h
  exact of_decide_eq_true h.2
theorem pairOf_ok {p : L × L} (h : okP p = true) : pairOf (p.1 ++ 58 :: 32 :: p.2) = some (lowP p) := by
  unfold okP at h
  rw [Bool.and_eq_true] at h
  obtain ⟨h1, h2⟩ := h
  obtain ⟨hne, hall⟩ := (isTok_iff p.1).1 h1
  have e := tok_app (a := p.1) (b := 32 :: p.2) (c := 58) hall tok58
  have ht : trim (32 :: p.2) = p.2 := by
    have : trim (32 :: p.2) = trim p.2 := by
      unfold trim
      rw [show skip (32 :: p.2) = skip p.2 from List.dropWhile_cons_of_pos (by decide)]
    rw [this, fval_trim h2]
  unfold pairOf
  rw [e]
  simp only [List.head?_cons, List.tail_cons, ht]
  rw [if_neg hne, if_neg (by simp), if_pos h2]
  rfl
theorem ok13 {p : L × L} (h : okP p = true) : 13 ∉ p.1 ++ 58 :: 32 :: p.2 := by
  unfold okP at h
  rw [Bool.and_eq_true] at h
  obtain ⟨h1, h2⟩ := h
  intro hm
  rcases List.mem_append.1 hm with hm | hm
  · have := ((isTok_iff p.1).1 h1).2 13 hm
    rw [tok13] at this
    cases this
  · simp only [List.mem_cons] at hm
    rcases hm with hm | hm | hm
    · exact absurd hm (by decide)
    · exact absurd hm (by decide)
    · exact fval_13 h2 hm
theorem fparse_prs (N : Nat) (more : L) (hN : N ≤ 8000 + more.length) : ∀ (l : List (L × L)) (f : Nat) (acc : List (L × L)), l.length < f → l.all okP = true → fparse N f (prs l ++ 13 :: 10 :: more) acc = (acc ++ l.map lowP, more, 0) := by
  intro l
  induction l with
  | nil =>
    intro f acc hf _
    obtain ⟨f, rfl⟩ : ∃ f', f = f' + 1 := ⟨f - 1, by simp only [List.length_nil] at hf; omega⟩
    rw [fparse, show prs [] ++ 13 :: 10 :: more = [] ++ 13 :: 10 :: more from rfl, line13 [] more (by simp)]
    simp only
    rw [if_neg (by omega)]
    simp
  | cons p r ih =>
    intro f acc hf h
    simp only [List.length_cons] at hf
    obtain ⟨f, rfl⟩ : ∃ f', f = f' + 1 := ⟨f - 1, by omega⟩
    rw [List.all_cons, Bool.and_eq_true] at h
    have e : prs (p :: r) ++ 13 :: 10 :: more = (p.1 ++ 58 :: 32 :: p.2) ++ 13 :: 10 :: (prs r ++ 13 :: 10 :: more) := by simp [prs]
    rw [fparse, e, line13 _ _ (ok13 h.1)]
    simp only
    rw [if_neg (by rw [List.length_append, List.length_cons, List.length_cons]; omega), if_neg (by simp), pairOf_ok h.1]
    simp only
    rw [ih f (acc ++ [lowP p]) (by omega) h.2]
    simp
theorem fields_prs (l : List (L × L)) (more : L) (h : l.all okP = true) (hl : (prs l).length + 2 ≤ 8000) : fields (prs l ++ 13 :: 10 :: more) = (l.map lowP, more, 0) := by
  have h4 := prs_len l
  unfold fields
  rw [fparse_prs _ more (by rw [List.length_append, List.length_cons, List.length_cons]; omega) l _ [] (by rw [List.length_append]; omega) h, List.nil_append]
theorem low_tok : ∀ a : Fin 256, tokB (lowB (UInt8.ofNat a.val)) = tokB (UInt8.ofNat a.val) ∧ lowB (lowB (UInt8.ofNat a.val)) = lowB (UInt8.ofNat a.val) := by decide +kernel
theorem low_low (s : L) : low (low s) = low s := by
  unfold low
  rw [List.map_map]
  refine List.map_congr_left (fun c _ => ?_)
  obtain ⟨a, rfl⟩ := u8_fin c
  exact (low_tok a).2
end Go.Proofs.YteonhdfjfjpbjaaGreatDoor.Sp
/- Px32 -/
namespace Go.Proofs.YteonhdfjfjpbjaaGreatDoor.P
open Go.Proofs.YteonhdfjfjpbjaaGreatDoor.B
open Go.RowKit Go.Proofs.YteonhdfjfjpbjaaGreatDoorW.PrintWords Go.Proofs.YteonhdfjfjpbjaaGreatDoorW.PrintLast Go.Proofs.YteonhdfjfjpbjaaGreatDoorW.PrintMore
attribute [local go_sem] str_leq str_gtr str_geq max2_int min2_int max_two min_two max_three min_three max_four min_four
set_option linter.unusedVariables false
set_option linter.unusedSimpArgs false

end Go.Proofs.YteonhdfjfjpbjaaGreatDoor.P
/- SpG -/
namespace Go.Proofs.YteonhdfjfjpbjaaGreatDoor.Sp
open Go Go.RowKit Go.Proofs.YteonhdfjfjpbjaaGreatDoorW.PrintWords Go.Proofs.YteonhdfjfjpbjaaGreatDoorW.PrintLast Go.Proofs.YteonhdfjfjpbjaaGreatDoor.O Go.Proofs.YteonhdfjfjpbjaaGreatDoor.P
set_option linter.unusedVariables false
set_option linter.unusedSimpArgs false
end Go.Proofs.YteonhdfjfjpbjaaGreatDoor.Sp
/- Px29 -/
namespace Go.Proofs.YteonhdfjfjpbjaaGreatDoor.P
open Go.Proofs.YteonhdfjfjpbjaaGreatDoor.B
open Go.RowKit Go.Proofs.YteonhdfjfjpbjaaGreatDoorW.PrintWords Go.Proofs.YteonhdfjfjpbjaaGreatDoorW.PrintLast Go.Proofs.YteonhdfjfjpbjaaGreatDoorW.PrintMore
attribute [local go_sem] str_leq str_gtr str_geq max2_int min2_int max_two min_two max_three min_three max_four min_four
set_option linter.unusedVariables false
set_option linter.unusedSimpArgs false





theorem eqA49 (d : Nat) (w : World) (x0 y0 : ByteArray) (x1 y1 : ByteArray) :
    (Op.equalIn (d + 2) 49 (.agg #[.string x0, .string x1]) (.agg #[.string y0, .string y1])).run Tryz.prog w = .ok (x0.toList == y0.toList && (x1.toList == y1.toList)) w := by
  refine eqA_of Tryz.underlying49 zb15 ?_
  refine eqf_cons (by rfl) (by go_simp; rfl) (by go_simp; rfl) (by go_simp) ?_
  exact eqf_last (by rfl) (by go_simp; rfl) (by go_simp; rfl) (by go_simp)
end Go.Proofs.YteonhdfjfjpbjaaGreatDoor.P
/- Px41 -/
namespace Go.Proofs.YteonhdfjfjpbjaaGreatDoor.P
open Go.Proofs.YteonhdfjfjpbjaaGreatDoor.B
open Go.RowKit Go.Proofs.YteonhdfjfjpbjaaGreatDoorW.PrintWords Go.Proofs.YteonhdfjfjpbjaaGreatDoorW.PrintLast Go.Proofs.YteonhdfjfjpbjaaGreatDoorW.PrintMore
attribute [local go_sem] str_leq str_gtr str_geq max2_int min2_int max_two min_two max_three min_three max_four min_four
set_option linter.unusedVariables false
set_option linter.unusedSimpArgs false
attribute [local go_sem high] eqA49
end Go.Proofs.YteonhdfjfjpbjaaGreatDoor.P
/- Px42 -/
namespace Go.Proofs.YteonhdfjfjpbjaaGreatDoor.P
open Go.Proofs.YteonhdfjfjpbjaaGreatDoor.B
open Go.RowKit Go.Proofs.YteonhdfjfjpbjaaGreatDoorW.PrintWords Go.Proofs.YteonhdfjfjpbjaaGreatDoorW.PrintLast Go.Proofs.YteonhdfjfjpbjaaGreatDoorW.PrintMore
attribute [local go_sem] str_leq str_gtr str_geq max2_int min2_int max_two min_two max_three min_three max_four min_four
set_option linter.unusedVariables false
set_option linter.unusedSimpArgs false
end Go.Proofs.YteonhdfjfjpbjaaGreatDoor.P
/- SpT -/
namespace Go.Proofs.YteonhdfjfjpbjaaGreatDoor.Sp
open Go.RowKit Go.Proofs.YteonhdfjfjpbjaaGreatDoorW.PrintWords Go.Proofs.YteonhdfjfjpbjaaGreatDoorW.PrintLast Go.Proofs.YteonhdfjfjpbjaaGreatDoor.O Go.Proofs.YteonhdfjfjpbjaaGreatDoor.P
set_option linter.unusedVariables false
set_option linter.unusedSimpArgs false
def tgB (c : UInt8) : Bool := decide (32 < c.toNat) && decide (c.toNat ≤ 126) && decide (c.toNat ≠ 35)
theorem odd_ch (b : UInt8) : oddT b.toNat = !tgB b := by
  unfold oddT tgB
  rw [Bool.eq_iff_iff]
  simp
theorem odd_high (x : Nat) (h : 128 ≤ x) : oddT x = true := by
  unfold oddT
  simp
  omega
theorem tg_low (b : UInt8) (h : tgB b = true) : b.toNat < 128 := by
  unfold tgB at h
  simp at h
  omega
theorem drop_bt' (s : ByteArray) (i : Nat) (h : i < s.size) : ∃ b : UInt8, s.data.toList.drop i = b :: s.data.toList.drop (i + 1) ∧ s[i]'h = b := by
  have h' : i < s.data.toList.length := by rw [← Lib.size_eq]; exact h
  refine ⟨s.data.toList[i], List.drop_eq_getElem_cons h', ?_⟩
  rw [Array.getElem_toList]
  rfl
theorem idx_all (s : ByteArray) : ∀ (f pos : Nat), s.size - pos ≤ f → (Lib.idxFuncFrom oddT true s f pos = -1 ↔ (s.data.toList.drop pos).all tgB = true)
  | f, pos, hf => by
    by_cases hp : pos < s.size
    · obtain ⟨b, e1, e3⟩ := drop_bt' s pos hp
      cases f with
      | zero => omega
      | succ f =>
        unfold Lib.idxFuncFrom
        rw [if_pos hp, e1, List.all_cons]
        by_cases ha : b.toNat < 128
        · have hd := decode_ascii s pos hp (by rw [e3]; exact ha)
          rw [e3] at hd
          rw [hd, odd_ch]
          cases hc : tgB b with
          | true =>
            rw [if_neg (by decide)]
            rw [idx_all s f (pos + 1) (by omega)]
            simp
          | false =>
            rw [if_pos (by decide)]
            simp
        · have hd := decode_high s pos hp (by rw [e3]; omega)
          rw [if_pos (odd_high _ hd.1)]
          have : tgB b = false := by
            cases hc : tgB b with
            | true => exact absurd (tg_low b hc) ha
            | false => rfl
          rw [this]
          simp
    · rw [Lib.idxFuncFrom_end _ _ _ _ _ hp, List.drop_eq_nil_of_le (by rw [← Lib.size_eq]; omega)]
      simp
theorem target_eq (l : L) : targetB (mk l) = (decide (l.head? = some 47) && l.all tgB) := by
  unfold targetB
  rw [mk_data]
  by_cases h : l.head? = some 47
  · rw [if_pos h]
    have key := idx_all (mk l) (mk l).size 0 (by omega)
    rw [List.drop_zero, mk_data] at key
    have hr := Lib.idxFunc_range oddT true (mk l)
    unfold Lib.idxFunc at hr ⊢
    have : (!decide (0 ≤ Lib.idxFuncFrom oddT true (mk l) (mk l).size 0)) = l.all tgB := by
      rw [Bool.eq_iff_iff, ← key]
      simp
      omega
    rw [this]
    simp [h]
  · rw [if_neg h]
    simp [h]
theorem join_snoc (acc : List L) (v sep : L) (h : acc ≠ []) : Lib.join (acc ++ [v]) sep = Lib.join acc sep ++ sep ++ v := by
  obtain ⟨x, r, rfl⟩ := List.exists_cons_of_ne_nil h
  rw [List.cons_append, Lib.join_cons, Lib.join_cons]
  unfold Lib.joinTail
  simp
theorem join_one (v sep : L) : Lib.join [v] sep = v := by rw [Lib.join_cons]; simp [Lib.joinTail]
theorem join_le (acc r : List L) (sep : L) : (Lib.join acc sep).length ≤ (Lib.join (acc ++ r) sep).length := by
  cases acc with
  | nil => rw [Lib.join_nil]; simp
  | cons x t =>
    rw [List.cons_append, Lib.join_cons, Lib.join_cons]
    unfold Lib.joinTail
    simp
theorem rget_l0 (l : List (L × L)) (n : L) (M : Nat) (hM : M ≤ 1000000) (hn : n.length ≤ M) (hl : l.length ≤ 1000000) (hp : ∀ p ∈ l, p.1.length ≤ M) : ∀ (d k i : Nat) (acc : List L), i + d = l.length → d + M + 1 < k → acc.length ≤ i → (Lib.join (acc ++ vals (l.drop i) n) [44, 32]).length ≤ 140737488355328 →
    broadsheetref18_Get.l0 k (pairsB l) (mk n) (mk (Lib.join acc [44, 32])) (acc.length : Int) (i : Int) = some (mk (Lib.join (acc ++ vals (l.drop i) n) [44, 32]), ((acc ++ vals (l.drop i) n).length : Int)) := by
  intro d
  induction d with
  | zero =>
    intro k i acc hi hk ha hj
    obtain ⟨k, rfl⟩ : ∃ k', k = k' + 1 := ⟨k - 1, by omega⟩
    rw [List.drop_eq_nil_of_le (by omega)] at hj ⊢
    rw [show vals [] n = [] from rfl, List.append_nil] at hj ⊢
    rw [broadsheetref18_Get.l0, if_neg (by rw [pairsB_len]; omega)]
  | succ d ih =>
    intro k i acc hi hk ha hj
    obtain ⟨k, rfl⟩ : ∃ k', k = k' + 1 := ⟨k - 1, by omega⟩
    have hlt : i < l.length := by omega
    have hmem := hp l[i] (List.getElem_mem hlt)
    rw [List.drop_eq_getElem_cons hlt, vals_cons] at hj ⊢
    rw [broadsheetref18_Get.l0, if_pos (by rw [pairsB_len]; omega), if_pos (by omega), rd_pairs l i l[i] (List.getElem?_eq_getElem hlt), rlowF _ _ (by omega) (by omega), Option.bind_some, rlowF _ _ (by omega) (by omega), Option.bind_some, tl_mk, tl_mk, w1 i (by omega), w1 acc.length (by omega)]
    by_cases h : low l[i].1 = low n
    · rw [if_pos h] at hj ⊢
      rw [if_pos h]
      have hstep := ih k (i + 1) (acc ++ [l[i].2]) (by omega) (by omega) (by rw [List.length_append, List.length_singleton]; omega) (by rw [List.append_assoc]; exact hj)
      rw [List.append_assoc, List.length_append, List.length_singleton] at hstep
      have hle := join_le (acc ++ [l[i].2]) (vals (l.drop (i + 1)) n) [44, 32]
      rw [List.append_assoc] at hle
      have hle2 := Nat.le_trans hle hj
      by_cases h0 : acc = []
      · subst h0
        rw [List.nil_append, join_one] at hle2 hstep
        rw [if_neg (by simp), if_pos (by rw [mk_size, mk_size, Lib.join_nil]; simp only [List.length_nil]; omega), mk_append, Lib.join_nil]
        exact hstep
      · have hpos := List.length_pos_iff.2 h0
        rw [join_snoc _ _ _ h0] at hle2 hstep
        simp only [List.length_append, List.length_cons, List.length_nil] at hle2
        rw [if_pos (by omega), show (⟨#[44, 32]⟩ : ByteArray) = mk [44, 32] from rfl, if_pos (by rw [mk_size]; omega), mk_append, if_pos (by rw [mk_size, mk_size, List.length_append]; simp only [List.length_cons, List.length_nil]; omega), mk_append]
        exact hstep
    · rw [if_neg h] at hj ⊢
      rw [if_neg h]
      exact ih k (i + 1) acc (by omega) (by omega) (by omega) hj
theorem rgetF (l : List (L × L)) (n : L) (M k : Nat) (hM : M ≤ 1000000) (hn : n.length ≤ M) (hl : l.length ≤ 1000000) (hp : ∀ p ∈ l, p.1.length ≤ M) (hj : (get l n).1.length ≤ 140737488355328) (hk : l.length + M + 1 < k) : broadsheetref18_Get.f k (pairsB l) (mk n) = some (mk (get l n).1, (get l n).2) := by
  have := rget_l0 l n M hM hn hl hp l.length k 0 [] (by omega) hk (by simp) (by simpa [get] using hj)
  unfold broadsheetref18_Get.f
  rw [List.drop_zero, List.nil_append] at this
  exact this
theorem get_bound (l : List (L × L)) (n : L) (hl : l.length ≤ 100000) (hp : ∀ p ∈ l, p.1.length ≤ 100000 ∧ p.2.length ≤ 100000) : (get l n).1.length ≤ 10000200000 :=
  Nat.le_trans (get_len _ _ 100000 (fun p h => (hp p h).2)) (Nat.mul_le_mul (show l.length ≤ 100000 from hl) (Nat.le_refl 100002))
def reqT (r : L × L × List (L × L) × L × Int) : ByteArray × ByteArray × List S49 × ByteArray × Int := (mk r.1, mk r.2.1, pairsB r.2.2.1, mk r.2.2.2.1, r.2.2.2.2)
theorem reqB_eq (s : L) : reqB (mk s) = reqT (reqS s) := by unfold reqB reqT; rw [mk_data]
theorem parseF (s : L) (hs : s.length ≤ 900000) : request_Parse.f (mk s) = some (reqT (reqS s)) := by
  unfold request_Parse.f
  rw [if_pos (by rw [mk_size]; exact hs), reqB_eq]
end Go.Proofs.YteonhdfjfjpbjaaGreatDoor.Sp
/- SpBa -/
namespace Go.Proofs.YteonhdfjfjpbjaaGreatDoor.Sp
open Go Go.RowKit Go.Proofs.YteonhdfjfjpbjaaGreatDoorW.PrintWords Go.Proofs.YteonhdfjfjpbjaaGreatDoorW.PrintLast Go.Proofs.YteonhdfjfjpbjaaGreatDoor.O Go.Proofs.YteonhdfjfjpbjaaGreatDoor.P
set_option linter.unusedVariables false
set_option linter.unusedSimpArgs false
def wt : List (L × L) → Nat
  | [] => 0
  | p :: r => p.1.length + p.2.length + 1 + wt r
theorem wt_len (l : List (L × L)) : l.length ≤ wt l := by
  induction l with
  | nil => simp
  | cons p r ih => rw [List.length_cons, wt]; omega
/-- What is told of fields, behind what is told already. -/
def printA (acc : L) (l : List (L × L)) : L × Int := if l.all okP = true then (if 8000 < (acc ++ prs l ++ [13, 10]).length then ([], 2) else (acc ++ prs l ++ [13, 10], 0)) else ([], 180)
theorem printA_nil (l : List (L × L)) : printA [] l = printS l := rfl
theorem printA_cons (acc : L) (p : L × L) (l : List (L × L)) : printA acc (p :: l) = if okP p = true then printA (acc ++ (p.1 ++ 58 :: 32 :: (p.2 ++ [13, 10]))) l else ([], 180) := by
  have e : acc ++ prs (p :: l) ++ [13, 10] = acc ++ (p.1 ++ 58 :: 32 :: (p.2 ++ [13, 10])) ++ prs l ++ [13, 10] := by simp [prs]
  unfold printA
  rw [e, List.all_cons]
  by_cases h : okP p = true
  · rw [if_pos h, h, Bool.true_and]
  · rw [if_neg h, Bool.eq_false_iff.2 h, Bool.false_and, if_neg (by decide)]
theorem rprint_w (l : List (L × L)) (hw : wt l ≤ 2000000) : ∀ (d k i : Nat) (acc : L), i + d = l.length → d + 5000010 < k → acc.length + 4 * wt (l.drop i) ≤ 10000000 →
    broadsheetref18_Print.l0 k (pairsB l) (mk acc) (i : Int) = some (mk (printA acc (l.drop i)).1, (printA acc (l.drop i)).2) := by
  have hll := wt_len l
  intro d
  induction d with
  | zero =>
    intro k i acc hi hk ha
    obtain ⟨k, rfl⟩ : ∃ k', k = k' + 1 := ⟨k - 1, by omega⟩
    rw [List.drop_eq_nil_of_le (by omega), broadsheetref18_Print.l0, if_neg (by rw [pairsB_len]; omega), show (⟨#[13, 10]⟩ : ByteArray) = mk [13, 10] from rfl, if_pos (by rw [mk_size]; omega), mk_append, mk_size]
    unfold printA
    simp only [List.all_nil, if_true, prs, List.append_nil]
    by_cases h : 8000 < (acc ++ [13, 10]).length
    · rw [if_pos (by omega), if_pos h]; rfl
    · rw [if_neg (by omega), if_neg h]
  | succ d ih =>
    intro k i acc hi hk ha
    obtain ⟨k, rfl⟩ : ∃ k', k = k' + 1 := ⟨k - 1, by omega⟩
    have hlt : i < l.length := by omega
    have hwc : wt (l.drop i) = l[i].1.length + l[i].2.length + 1 + wt (l.drop (i + 1)) := by rw [List.drop_eq_getElem_cons hlt, wt]
    have h1 : l[i].1.length + l[i].2.length ≤ 2500000 := by omega
    rw [List.drop_eq_getElem_cons hlt, printA_cons, okP]
    rw [broadsheetref18_Print.l0, if_pos (by rw [pairsB_len]; omega), if_pos (by omega), rd_pairs l i l[i] (List.getElem?_eq_getElem hlt)]
    simp only
    rw [rtokF _ k (by omega) (by omega), Option.bind_some]
    simp only [tl_mk]
    have hit : isTok l[i].1 = (decide ((tok l[i].1).1 ≠ []) && decide ((tok l[i].1).2 = [])) := rfl
    by_cases ht1 : (tok l[i].1).1 = []
    · rw [if_pos ht1]
      simp [hit, ht1]
      rfl
    · rw [if_neg ht1]
      by_cases ht2 : (tok l[i].1).2 = []
      · have ht : isTok l[i].1 = true := by rw [hit]; simp [ht1, ht2]
        rw [if_pos ht2, rfvalF _ k (by omega) (by omega), Option.bind_some]
        by_cases hv : fval l[i].2 = true
        · have e1 : (⟨#[58, 32]⟩ : ByteArray) = mk [58, 32] := rfl
          have e2 : (⟨#[13, 10]⟩ : ByteArray) = mk [13, 10] := rfl
          rw [if_pos hv, e1, e2, mk_append, mk_append, mk_append, mk_append, if_pos (by rw [mk_size, mk_size]; omega), if_pos (by rw [mk_size, List.length_append]; omega), if_pos (by rw [mk_size, mk_size]; simp only [List.length_append, List.length_cons, List.length_nil]; omega), if_pos (by rw [mk_size]; simp only [List.length_append, List.length_cons, List.length_nil]; omega), w1 i (by omega)]
          rw [ih k (i + 1) _ (by omega) (by omega) (by simp only [List.length_append, List.length_cons, List.length_nil]; omega)]
          simp [ht, hv]
        · rw [if_neg hv]
          simp [ht, hv]
          rfl
      · rw [if_neg ht2]
        simp [hit, ht2]
        rfl
theorem rprintW (l : List (L × L)) (k : Nat) (hw : wt l ≤ 2000000) (hk : 8000000 ≤ k) : broadsheetref18_Print.f k (pairsB l) = some (mk (printS l).1, (printS l).2) := by
  have hll := wt_len l
  have := rprint_w l hw l.length k 0 [] (by omega) (by omega) (by simp; omega)
  unfold broadsheetref18_Print.f
  rw [List.drop_zero, printA_nil] at this
  exact this
end Go.Proofs.YteonhdfjfjpbjaaGreatDoor.Sp
/- SpI -/
namespace Go.Proofs.YteonhdfjfjpbjaaGreatDoor.Sp
open Go
set_option linter.unusedVariables false
set_option linter.unusedSimpArgs false
theorem enc_bd (n : Nat) (hn : 1 ≤ n) : ∀ (d f : Nat) (s : L), s.length ≤ d → d < f → s.length ≤ 4294967296 → s.length ≤ (encode f s n).length ∧ 1 ≤ (encode f s n).length ∧ (encode f s n).length ≤ 20 * s.length + 5 := by
  intro d
  induction d with
  | zero =>
    intro f s hs hf hb
    obtain ⟨f, rfl⟩ : ∃ f', f = f' + 1 := ⟨f - 1, by omega⟩
    obtain rfl : s = [] := List.eq_nil_of_length_eq_zero (by omega)
    rw [encode, if_pos rfl]
    simp
  | succ d ih =>
    intro f s hs hf hb
    obtain ⟨f, rfl⟩ : ∃ f', f = f' + 1 := ⟨f - 1, by omega⟩
    by_cases h0 : s = []
    · subst h0
      rw [encode, if_pos rfl]
      simp
    · have hp : 0 < s.length := List.length_pos_iff.2 h0
      rw [encode, if_neg h0]
      have hdl := hexD_len 8 (min n s.length) (by omega)
      obtain ⟨h1, h2, h3⟩ := ih f (s.drop n) (by rw [List.length_drop]; omega) (by omega) (by rw [List.length_drop]; omega)
      rw [List.length_drop] at h1 h3
      simp only [List.length_append, List.length_cons, List.length_nil, List.length_take]
      omega
theorem enc_len (s : L) (n : Nat) (hn : 1 ≤ n) (hs : s.length ≤ 4294967296) : s.length ≤ (enc s n).length ∧ 1 ≤ (enc s n).length ∧ (enc s n).length ≤ 20 * s.length + 5 := enc_bd n hn s.length _ s (Nat.le_refl _) (by omega) hs
theorem dec_enc (s b : L) (n : Nat) (hn : 1 ≤ n) (hs : s.length ≤ 100000) : dec (enc s n ++ b) = (s, b, 0) := by
  have := (enc_len s n hn (by omega)).1
  exact enc_back s b n hn hs _ (by rw [List.length_append]; omega)
end Go.Proofs.YteonhdfjfjpbjaaGreatDoor.Sp
/- SpBb -/
namespace Go.Proofs.YteonhdfjfjpbjaaGreatDoor.Sp
open Go Go.RowKit Go.Proofs.YteonhdfjfjpbjaaGreatDoorW.PrintWords Go.Proofs.YteonhdfjfjpbjaaGreatDoorW.PrintLast Go.Proofs.YteonhdfjfjpbjaaGreatDoor.O Go.Proofs.YteonhdfjfjpbjaaGreatDoor.P
set_option linter.unusedVariables false
set_option linter.unusedSimpArgs false
theorem numN_app (a b : L) : ∀ n, numN n (a ++ b) = numN (numN n a) b := by
  induction a with
  | nil => intro n; rfl
  | cons c r ih => intro n; exact ih _
theorem num_dig (n u : Nat) (h : u < 10) : numN n [UInt8.ofNat (48 + u)] = n * 10 + u := by
  have : (UInt8.ofNat (48 + u)).toNat = 48 + u := by rw [UInt8.toNat_ofNat']; omega
  show n * 10 + ((UInt8.ofNat (48 + u)).toNat - 48) = n * 10 + u
  rw [this]
  omega
theorem num_one (u : Nat) (h : u < 10) : numN 0 [UInt8.ofNat (48 + u)] = u := by rw [num_dig 0 u h]; omega
theorem num_dec (j : Nat) : ∀ u, u < 10 ^ (j + 1) → numN 0 (Lib.decDigits u) = u := by
  induction j with
  | zero =>
    intro u hu
    have h9 : u < 10 := by simpa using hu
    rw [Lib.decDigits, dif_pos h9]
    exact num_one u (by omega)
  | succ j ih =>
    intro u hu
    by_cases h : u < 10
    · rw [Lib.decDigits, dif_pos h]
      exact num_one u h
    · rw [Lib.decDigits, dif_neg h, numN_app, ih (u / 10) (by rw [Nat.pow_succ] at hu; omega)]
      rw [num_dig _ _ (by omega)]
      omega
theorem size_dec (n : Nat) (h : n ≤ 100000) : sizeE n (Mn.dec (n : Int)) = 0 := by
  have e : Mn.dec (n : Int) = Lib.decDigits n := rfl
  have h1 := Mn.dec_ne n
  have h2 := Mn.dec_len 5 n (by omega)
  have h3 : (Lib.decDigits n).all digB = true := List.all_eq_true.2 (fun c hc => by
    have := Mn.dec_mem n c hc
    unfold digB
    simp [this])
  have hs : sizeS (Mn.dec (n : Int)) = some n := by
    rw [e]
    unfold sizeS
    rw [if_neg (by rw [not_or, not_or]; exact ⟨h1, by omega, by rw [h3]; decide⟩), num_dec 5 n (by omega)]
  unfold sizeE
  rw [hs]
  simp only
  rw [if_neg (by omega), if_neg (by simp)]
theorem vals_cs (p : L × L) (l : List (L × L)) (n : L) : vals (p :: l) n = if low p.1 = low n then p.2 :: vals l n else vals l n := by
  unfold vals
  rw [List.filter_cons]
  by_cases h : low p.1 = low n
  · rw [if_pos (by simpa using h), if_pos h]; rfl
  · rw [if_neg (by simpa using h), if_neg h]
theorem vals_low (l : List (L × L)) (n : L) : vals (l.map lowP) n = vals l n := by
  induction l with
  | nil => rfl
  | cons p r ih =>
    rw [List.map_cons, vals_cs, vals_cs, ih]
    have e : low (lowP p).1 = low p.1 := low_low p.1
    rw [e]
    rfl
theorem get_low (l : List (L × L)) (n : L) : get (l.map lowP) n = get l n := by unfold get; rw [vals_low]
theorem vals_none {l : List (L × L)} {n : L} (h : (get l n).2 = 0) : vals l n = [] := by
  unfold get at h
  simp only at h
  exact List.length_eq_zero_iff.1 (by omega)
def HostL : L := [72, 111, 115, 116]
def CLenL : L := [67, 111, 110, 116, 101, 110, 116, 45, 76, 101, 110, 103, 116, 104]
def TEncL : L := [84, 114, 97, 110, 115, 102, 101, 114, 45, 69, 110, 99, 111, 100, 105, 110, 103]
def ChunkedL : L := [67, 104, 117, 110, 107, 101, 100]
def postL : L := [80, 79, 83, 84]
def headC (l : List (L × L)) (b : L) : List (L × L) := (HostL, [104]) :: (CLenL, Mn.dec (b.length : Int)) :: l
def headT (l : List (L × L)) : List (L × L) := (HostL, [104]) :: (TEncL, ChunkedL) :: l
theorem low_cc : low HostL = low hostL ∧ ¬ (low HostL = low clenL) ∧ ¬ (low HostL = low tencL) ∧ ¬ (low CLenL = low hostL) ∧ low CLenL = low clenL ∧ ¬ (low CLenL = low tencL) ∧
    ¬ (low TEncL = low hostL) ∧ ¬ (low TEncL = low clenL) ∧ low TEncL = low tencL ∧ low ChunkedL = chunkedL := by decide +kernel
theorem get_one {l : List (L × L)} {n v : L} (h : vals l n = [v]) : get l n = (v, 1) := by unfold get; rw [h, join_one]; rfl
theorem get_nil {l : List (L × L)} {n : L} (h : vals l n = []) : get l n = ([], 0) := by unfold get; rw [h]; rfl
theorem body_C {l : List (L × L)} {b : L} (h1 : vals l clenL = []) (h2 : vals l tencL = []) (hb : b.length ≤ 1000) : bodyS ((headC l b).map lowP) b = (b, 0) := by
  obtain ⟨c1, c2, c3, c4, c5, c6, c7, c8, c9, c10⟩ := low_cc
  have e1 : get (headC l b) clenL = (Mn.dec (b.length : Int), 1) := get_one (by
    unfold headC
    rw [vals_cs, vals_cs]
    simp only
    rw [if_neg c2, if_pos c5, h1])
  have e2 : get (headC l b) tencL = ([], 0) := get_nil (by
    unfold headC
    rw [vals_cs, vals_cs]
    simp only
    rw [if_neg c3, if_neg c6, h2])
  unfold bodyS
  rw [get_low, get_low, e1, e2]
  simp only
  rw [if_neg (by decide), if_neg (by decide), if_pos (by decide), size_dec _ (by omega)]
theorem body_T {l : List (L × L)} {b : L} (n : Nat) (hn : 1 ≤ n) (h1 : vals l clenL = []) (h2 : vals l tencL = []) (hb : b.length ≤ 1000) : bodyS ((headT l).map lowP) (enc b n) = (b, 0) := by
  obtain ⟨c1, c2, c3, c4, c5, c6, c7, c8, c9, c10⟩ := low_cc
  have e1 : get (headT l) clenL = ([], 0) := get_nil (by
    unfold headT
    rw [vals_cs, vals_cs]
    simp only
    rw [if_neg c2, if_neg c8, h1])
  have e2 : get (headT l) tencL = (ChunkedL, 1) := get_one (by
    unfold headT
    rw [vals_cs, vals_cs]
    simp only
    rw [if_neg c3, if_pos c9, h2])
  have hd := dec_enc b [] n hn (by omega)
  rw [List.append_nil] at hd
  unfold bodyS
  rw [get_low, get_low, e1, e2, hd]
  simp only
  rw [if_neg (by decide), if_pos (by decide), if_pos c10, if_true, if_true]
theorem host_C {l : List (L × L)} {b : L} (h : vals l hostL = []) : (get (headC l b) hostL).2 = 1 := by
  obtain ⟨c1, c2, c3, c4, c5, c6, c7, c8, c9, c10⟩ := low_cc
  rw [get_one (v := [104]) (by
    unfold headC
    rw [vals_cs, vals_cs]
    simp only
    rw [if_pos c1, if_neg c4, h])]
theorem host_T {l : List (L × L)} (h : vals l hostL = []) : (get (headT l) hostL).2 = 1 := by
  obtain ⟨c1, c2, c3, c4, c5, c6, c7, c8, c9, c10⟩ := low_cc
  rw [get_one (v := [104]) (by
    unfold headT
    rw [vals_cs, vals_cs]
    simp only
    rw [if_pos c1, if_neg c7, h])]
theorem dg_plain : ∀ a : Fin 256, (48 ≤ (UInt8.ofNat a.val).toNat ∧ (UInt8.ofNat a.val).toNat ≤ 57) → ctl (UInt8.ofNat a.val) = false ∧ bl (UInt8.ofNat a.val) = false := by decide +kernel
theorem skip_no {s : L} (h : ∀ c ∈ s, bl c = false) : skip s = s := by
  cases s with
  | nil => rfl
  | cons c r => exact List.dropWhile_cons_of_neg (by rw [h c List.mem_cons_self]; decide)
theorem fval_dec (n : Int) : fval (Mn.dec n) = true := by
  have hm : ∀ c ∈ Mn.dec n, ctl c = false ∧ bl c = false := fun c hc => by
    have := Mn.dec_mem n.toNat c hc
    obtain ⟨a, rfl⟩ := u8_fin c
    exact dg_plain a this
  unfold fval
  rw [Bool.and_eq_true]
  refine ⟨List.all_eq_true.2 (fun c hc => by rw [(hm c hc).1]; rfl), decide_eq_true ?_⟩
  unfold trim
  rw [skip_no (fun c hc => (hm c hc).2), skip_no (fun c hc => (hm c (List.mem_reverse.1 hc)).2), List.reverse_reverse]
theorem ok_C {l : List (L × L)} (b : L) (h : l.all okP = true) : (headC l b).all okP = true := by
  unfold headC
  rw [List.all_cons, List.all_cons, h, show okP (HostL, [104]) = true by decide +kernel]
  unfold okP
  simp only
  rw [fval_dec, show isTok CLenL = true by decide +kernel]
  rfl
theorem ok_T {l : List (L × L)} (h : l.all okP = true) : (headT l).all okP = true := by
  unfold headT
  rw [List.all_cons, List.all_cons, h, show okP (HostL, [104]) = true by decide +kernel, show okP (TEncL, ChunkedL) = true by decide +kernel]
  rfl
theorem req_back {path : L} {H : List (L × L)} {more body : L} (hp : path.all tgB = true) (hpl : path.length ≤ 1000) (hH : H.all okP = true) (hlen : (prs H).length + 2 ≤ 8000) (hhost : (get H hostL).2 = 1) (hbody : bodyS (H.map lowP) more = (body, 0)) :
    reqS ((postL ++ 32 :: ((47 :: path) ++ 32 :: httpL)) ++ 13 :: 10 :: (prs H ++ 13 :: 10 :: more)) = (postL, 47 :: path, H.map lowP, body, 0) := by
  have hno : ∀ c : UInt8, tgB c = false → c ∉ path := fun c hc hm => by
    have := List.all_eq_true.1 hp c hm
    rw [hc] at this
    cases this
  have h13 := hno 13 (by decide)
  have h32 := hno 32 (by decide)
  have hl13 : 13 ∉ postL ++ 32 :: ((47 :: path) ++ 32 :: httpL) := by
    intro hm
    simp only [postL, httpL, List.mem_append, List.mem_cons, List.not_mem_nil, or_false] at hm
    revert hm
    simp [h13]
  have hc : Mn.cut 32 (postL ++ 32 :: ((47 :: path) ++ 32 :: httpL)) = [postL, 47 :: path, httpL] := by
    rw [Mn.cut_app 32 _ postL (by decide), Mn.cut_app 32 httpL (47 :: path) (by simp [h32]), Mn.cut_none 32 httpL (by decide)]
  unfold reqS
  rw [line13 _ _ hl13]
  simp only
  rw [if_neg (by simp only [postL, httpL, List.length_append, List.length_cons, List.length_nil]; omega), hc]
  simp only
  have hf : firstS postL (47 :: path) httpL = true := by
    unfold firstS
    rw [target_eq, List.all_cons, hp, List.head?_cons, show tgB 47 = true by decide, show (tok postL).2 = [] by decide +kernel, show (tok postL).1 = postL by decide +kernel]
    decide +kernel
  rw [if_pos hf]
  unfold restS
  rw [fields_prs _ _ hH hlen]
  simp only
  rw [if_neg (by decide), get_low, hhost, if_neg (by decide), hbody]
  simp only
  rw [if_neg (by decide)]
def hexT : L := [48, 49, 50, 51, 52, 53, 54, 55, 56, 57, 97, 98, 99, 100, 101, 102]
theorem hexT_all : ∀ a : Fin 16, (hexT.drop a.val).take (a.val + 1 - a.val) = [hexC a.val] := by decide +kernel
theorem hexT_at (a : Nat) (h : a < 16) : (hexT.drop a).take (a + 1 - a) = [hexC a] := hexT_all ⟨a, h⟩
theorem rdig_eq (j : Nat) : ∀ (k n : Nat), n < 16 ^ (j + 1) → j < k → n ≤ 4294967296 → broadsheetref19_digits.f k n = some (mk (hexD n)) := by
  induction j with
  | zero =>
    intro k n hn hk hb
    obtain ⟨k, rfl⟩ : ∃ k', k = k' + 1 := ⟨k - 1, by omega⟩
    have em : Int.tmod (n : Int) 16 = ((n % 16 : Nat) : Int) := by rw [Int.tmod_eq_emod_of_nonneg (by omega)]; omega
    rw [broadsheetref19_digits.f, em, w1 (n % 16) (by omega), if_pos (by omega), if_pos (by omega), if_pos (by omega), if_pos (by omega)]
    simp only [Int.toNat_natCast]
    rw [show (⟨#[48, 49, 50, 51, 52, 53, 54, 55, 56, 57, 97, 98, 99, 100, 101, 102]⟩ : ByteArray) = mk hexT from rfl, ext_mk, hexT_at (n % 16) (by omega), hexD_lt (by omega)]
    rw [show n % 16 = n by omega]
  | succ j ih =>
    intro k n hn hk hb
    obtain ⟨k, rfl⟩ : ∃ k', k = k' + 1 := ⟨k - 1, by omega⟩
    have em : Int.tmod (n : Int) 16 = ((n % 16 : Nat) : Int) := by rw [Int.tmod_eq_emod_of_nonneg (by omega)]; omega
    have eq_ : Int.tdiv (n : Int) 16 = ((n / 16 : Nat) : Int) := by rw [Int.tdiv_eq_ediv_of_nonneg (by omega)]; omega
    rw [broadsheetref19_digits.f, em, w1 (n % 16) (by omega), if_pos (by omega), if_pos (by omega), if_pos (by omega)]
    simp only [Int.toNat_natCast]
    rw [show (⟨#[48, 49, 50, 51, 52, 53, 54, 55, 56, 57, 97, 98, 99, 100, 101, 102]⟩ : ByteArray) = mk hexT from rfl, ext_mk, hexT_at (n % 16) (by omega)]
    by_cases h : n < 16
    · rw [if_pos (by omega), hexD_lt h, show n % 16 = n by omega]
    · rw [if_neg (by omega), eq_, wrap_id (by omega) (by omega), ih k (n / 16) (by rw [Nat.pow_succ] at hn; omega) (by omega) (by omega)]
      simp only [Option.bind_some]
      have hdl := hexD_len 8 (n / 16) (by omega)
      rw [if_pos (by rw [mk_size, mk_size]; simp only [List.length_singleton]; omega), mk_append, ← hexD_ge h]
theorem rdigF (n k : Nat) (hn : n ≤ 4294967296) (hk : 9 ≤ k) : broadsheetref19_digits.f k n = some (mk (hexD n)) := rdig_eq 8 k n (by omega) (by omega) hn
theorem renc_l0 (n : Int) (hn : 1 ≤ n) : ∀ (d f k : Nat) (s acc : L), s.length ≤ d → d < f → d + 10 < k → s.length ≤ 4294967296 → acc.length + 20 * s.length ≤ 1000000000000 →
    broadsheetref19_Encode.l0 k (mk s) n (mk acc) = some (mk (acc ++ encode f s n.toNat), 0) := by
  intro d
  induction d with
  | zero =>
    intro f k s acc hs hf hk hl ha
    obtain ⟨k, rfl⟩ : ∃ k', k = k' + 1 := ⟨k - 1, by omega⟩
    obtain ⟨f, rfl⟩ : ∃ f', f = f' + 1 := ⟨f - 1, by omega⟩
    obtain rfl : s = [] := List.eq_nil_of_length_eq_zero (by omega)
    rw [broadsheetref19_Encode.l0, if_neg (by rw [mk_size]; simp), if_pos (by rw [mk_size]; omega), encode, if_pos rfl, show (⟨#[48, 13, 10, 13, 10]⟩ : ByteArray) = mk [48, 13, 10, 13, 10] from rfl, mk_append]
  | succ d ih =>
    intro f k s acc hs hf hk hl ha
    obtain ⟨k, rfl⟩ : ∃ k', k = k' + 1 := ⟨k - 1, by omega⟩
    obtain ⟨f, rfl⟩ : ∃ f', f = f' + 1 := ⟨f - 1, by omega⟩
    rw [broadsheetref19_Encode.l0, encode, mk_size, mk_size]
    by_cases h0 : s = []
    · subst h0
      rw [if_neg (by simp), if_pos rfl, if_pos (by omega), show (⟨#[48, 13, 10, 13, 10]⟩ : ByteArray) = mk [48, 13, 10, 13, 10] from rfl, mk_append]
    · have hp : 0 < s.length := List.length_pos_iff.2 h0
      rw [if_pos (by omega), if_neg h0, mn_nat n s hn]
      obtain ⟨m, hm⟩ : ∃ m, m = min n.toNat s.length := ⟨_, rfl⟩
      rw [← hm, rdigF m k (by omega) (by omega)]
      have hdl := hexD_len 8 m (by omega)
      have et : s.take n.toNat = s.take m := by rw [hm]; exact (List.take_eq_take_min).trans (by rfl)
      have ed : s.drop n.toNat = s.drop m := by
        by_cases h : n.toNat ≤ s.length
        · rw [show m = n.toNat by omega]
        · rw [List.drop_eq_nil_of_le (by omega), List.drop_eq_nil_of_le (by omega)]
      have htl : (s.take m).length = m := by rw [List.length_take]; omega
      have e2 : (mk s).extract m s.length = mk (s.drop m) := by
        have := ext_from s m
        rw [mk_size] at this
        exact this
      simp only [Option.bind_some, Int.toNat_natCast, show (⟨#[13, 10]⟩ : ByteArray) = mk [13, 10] from rfl, mk_append, mk_size, ext_to, List.length_append, List.length_cons, List.length_nil, htl]
      rw [if_pos (by omega), if_pos (by omega), if_pos (by omega), if_pos (by omega), if_pos (by omega), if_pos (by omega)]
      rw [e2, ih f k (s.drop m) _ (by rw [List.length_drop]; omega) (by omega) (by omega) (by rw [List.length_drop]; omega) (by simp only [List.length_append, List.length_cons, List.length_nil, htl, List.length_drop]; omega), et, ed]
      congr 2
      simp
theorem rencodeF (s : L) (n : Int) (k : Nat) (hk : s.length + 10 < k) : broadsheetref19_Encode.f k (mk s) n = some (mk (encR s n).1, (encR s n).2) := by
  unfold broadsheetref19_Encode.f encR
  rw [mk_size]
  by_cases h1 : n < 1
  · rw [if_pos h1, if_pos h1]; rfl
  rw [if_neg h1, if_neg h1]
  by_cases h2 : s.length > 100000
  · rw [if_pos (by omega), if_pos h2]; rfl
  rw [if_neg (by omega), if_neg h2]
  have := renc_l0 n (by omega) s.length (s.length + 1) k s [] (Nat.le_refl _) (by omega) hk (by omega) (by simp; omega)
  rw [List.nil_append] at this
  exact this
end Go.Proofs.YteonhdfjfjpbjaaGreatDoor.Sp
/- Px44 -/
namespace Go.Proofs.YteonhdfjfjpbjaaGreatDoor.P
open Go.Proofs.YteonhdfjfjpbjaaGreatDoor.B
open Go.RowKit Go.Proofs.YteonhdfjfjpbjaaGreatDoorW.PrintWords Go.Proofs.YteonhdfjfjpbjaaGreatDoorW.PrintLast Go.Proofs.YteonhdfjfjpbjaaGreatDoorW.PrintMore
attribute [local go_sem] str_leq str_gtr str_geq max2_int min2_int max_two min_two max_three min_three max_four min_four
set_option linter.unusedVariables false
set_option linter.unusedSimpArgs false

end Go.Proofs.YteonhdfjfjpbjaaGreatDoor.P
/- SpV -/
namespace Go.Proofs.YteonhdfjfjpbjaaGreatDoor.Sp
open Go.RowKit Go.Proofs.YteonhdfjfjpbjaaGreatDoorW.PrintWords Go.Proofs.YteonhdfjfjpbjaaGreatDoorW.PrintLast Go.Proofs.YteonhdfjfjpbjaaGreatDoor.O Go.Proofs.YteonhdfjfjpbjaaGreatDoor.P
set_option linter.unusedVariables false
set_option linter.unusedSimpArgs false
def pc : L → Option L
  | [] => some []
  | c :: r => if c = 37 then (match r with
      | a :: b :: t => if hexB a = true ∧ hexB b = true then (pc t).map (hx2 a b :: ·) else none
      | _ => none) else (pc r).map (c :: ·)
theorem pc_plain (y : L) : ∀ (x : L), 37 ∉ x → pc (x ++ y) = (pc y).map (x ++ ·)
  | [], _ => by rw [List.nil_append]; cases pc y <;> simp
  | c :: x, h => by
    have hc : c ≠ 37 := fun e => h (by simp [e])
    rw [List.cons_append, pc.eq_def]
    simp only [hc, if_false]
    rw [pc_plain y x (fun e => h (by simp [e]))]
    cases pc y <;> rfl
theorem perc_pc : ∀ (d f : Nat) (s : L), s.length ≤ d → d < f → perc f s = pc s := by
  intro d
  induction d with
  | zero =>
    intro f s hs hf
    obtain ⟨f, rfl⟩ : ∃ f', f = f' + 1 := ⟨f - 1, by omega⟩
    obtain rfl : s = [] := List.eq_nil_of_length_eq_zero (by omega)
    rw [perc, cut1_none (by simp)]
    rfl
  | succ d ih =>
    intro f s hs hf
    obtain ⟨f, rfl⟩ : ∃ f', f = f' + 1 := ⟨f - 1, by omega⟩
    rcases index1 37 s with ⟨e1, _⟩ | ⟨x, y, e1, e2, _⟩
    · rw [perc, cut1_none e1, if_neg (by simp)]
      have := pc_plain [] s e1
      rw [List.append_nil] at this
      rw [this]
      simp [pc]
    · have hsz : s.length = x.length + (y.length + 1) := by rw [e1]; simp
      have e := cut1_some x y e2
      rw [e1, pc_plain (37 :: y) x e2, perc, e]
      simp only [if_true]
      match y, hsz with
      | [], _ => rfl
      | [a], _ => rfl
      | a :: b :: t, hsz =>
        simp only [List.length_cons] at hsz
        rw [pc.eq_def]
        simp only [if_true]
        rw [ih f t (by omega) (by omega)]
        by_cases h : hexB a = true ∧ hexB b = true
        · rw [if_pos h, if_pos h]
          cases pc t <;> simp
        · rw [if_neg h, if_neg h]
          rfl
theorem percS_pc (s : L) : percS s = pc s := perc_pc s.length _ s (Nat.le_refl _) (Nat.lt_succ_self _)
def slB (c : UInt8) : Bool := decide (97 ≤ c.toNat) && decide (c.toNat ≤ 122) || decide (48 ≤ c.toNat) && decide (c.toNat ≤ 57)
def dsh (o : L) (gap : Bool) : L := if gap = true ∧ o.length < 19 then o ++ [45] else o
def sg : L → L → Bool → L
  | [], o, _ => o
  | c :: r, o, gap => if slB c = true then (if (dsh o gap).length = 20 then dsh o gap else sg r (dsh o gap ++ [c]) false) else sg r o (decide (0 < o.length))
theorem slI_b (c : UInt8) : slI (c.toNat : Int) = slB c := by
  unfold slI slB
  rw [Bool.eq_iff_iff]
  simp only [Bool.or_eq_true, Bool.and_eq_true, decide_eq_true_eq]
  omega
theorem dash_nums (o : L) (g : Bool) : dash (nums o) g = nums (dsh o g) := by
  unfold dash dsh
  rw [nums_len]
  split
  · simp [nums]
  · rfl
theorem sgL_nums : ∀ (l o : L) (g : Bool), sgL (nums l) (nums o) g = nums (sg l o g)
  | [], o, g => rfl
  | c :: r, o, g => by
    show sgL ((c.toNat : Int) :: nums r) (nums o) g = _
    rw [sgL, sg, slI_b, dash_nums, nums_len, nums_snoc, nums_len]
    by_cases h : slB c = true
    · rw [if_pos h, if_pos h]
      by_cases h2 : (dsh o g).length = 20
      · rw [if_pos h2, if_pos h2]
      · rw [if_neg h2, if_neg h2, sgL_nums r]
    · rw [if_neg h, if_neg h, sgL_nums r]
theorem btl_nums (l : L) : btl (mk l) = nums l := by
  apply List.ext_getElem
  · simp [btl, nums, mk_size]
  · intro i h1 h2
    have hi : i < l.length := by rw [nums_len] at h2; exact h2
    obtain ⟨b, e1, e2⟩ := mk_bt l i hi
    have hb : b = l[i] := by
      rw [List.drop_eq_getElem_cons hi] at e1
      exact (List.cons.inj e1).1.symm
    simp only [btl, nums, List.getElem_map, List.getElem_range]
    rw [e2, hb]
def slugS (s : L) : L := sg (low (slugT s)) [] false
theorem slugB_eq (s : L) : slugB s = mk (slugS s) := by
  unfold slugB slugS
  rw [btl_nums, show ([] : List Int) = nums [] from rfl, sgL_nums, nums_str]
theorem slugF (s : L) (hs : s.length ≤ 1000000) : request_Slug.f (mk s) = some (mk (slugS s)) := by
  unfold request_Slug.f
  rw [if_pos (by rw [mk_size]; exact hs), mk_data, slugB_eq]
def awA : L := [71, 69, 84, 32, 47, 32, 72, 84, 84, 80, 47, 49, 46, 49, 13, 10, 72, 111, 115, 116, 58, 32, 97, 13, 10, 13, 10]
def awB : L := [71, 69, 84, 32, 47, 32, 72, 84, 84, 80, 47, 49, 46, 48, 13, 10, 13, 10]
def awC : L := [84, 104, 101, 32, 66, 101, 97, 99, 104, 32, 97, 116, 32, 83, 37, 67, 51, 37, 65, 56, 116, 101]
theorem firstS_eq (a b c : L) : firstS a b c = (decide (c = httpL) && (decide (b.head? = some 47) && b.all tgB) && decide ((tok a).1 ≠ []) && decide ((tok a).2 = [])) := by unfold firstS; rw [target_eq]
theorem first_a : firstS [71, 69, 84] [47] httpL = true := by rw [firstS_eq]; decide +kernel
theorem req_a : reqS awA = ([71, 69, 84], [47], [([104, 111, 115, 116], [97])], [], 0) := by
  have e1 : line awA = some ([71, 69, 84, 32, 47, 32, 72, 84, 84, 80, 47, 49, 46, 49], [72, 111, 115, 116, 58, 32, 97, 13, 10, 13, 10]) := by decide +kernel
  have e2 : Mn.cut 32 [71, 69, 84, 32, 47, 32, 72, 84, 84, 80, 47, 49, 46, 49] = [[71, 69, 84], [47], httpL] := by decide +kernel
  have e3 : restS [71, 69, 84] [47] [72, 111, 115, 116, 58, 32, 97, 13, 10, 13, 10] = ([71, 69, 84], [47], [([104, 111, 115, 116], [97])], [], 0) := by decide +kernel
  unfold reqS
  rw [e1]
  simp only
  rw [if_neg (by decide), e2]
  simp only
  rw [if_pos first_a, e3]
theorem req_b : reqS awB = zq 200 := by
  have e1 : line awB = some ([71, 69, 84, 32, 47, 32, 72, 84, 84, 80, 47, 49, 46, 48], [13, 10]) := by decide +kernel
  have e2 : Mn.cut 32 [71, 69, 84, 32, 47, 32, 72, 84, 84, 80, 47, 49, 46, 48] = [[71, 69, 84], [47], [72, 84, 84, 80, 47, 49, 46, 48]] := by decide +kernel
  unfold reqS
  rw [e1]
  simp only
  rw [if_neg (by decide), e2]
  simp only
  rw [if_neg (by rw [firstS_eq]; decide +kernel)]
theorem slug_c : slugS awC = [116, 104, 101, 45, 98, 101, 97, 99, 104, 45, 97, 116, 45, 115, 45, 116, 101] := by
  unfold slugS slugT
  rw [percS_pc]
  decide +kernel
theorem awake20 : broadsheetlaw20_awake.f = some true := by
  unfold broadsheetlaw20_awake.f
  rw [show (⟨#[71, 69, 84, 32, 47, 32, 72, 84, 84, 80, 47, 49, 46, 49, 13, 10, 72, 111, 115, 116, 58, 32, 97, 13, 10, 13, 10]⟩ : ByteArray) = mk awA from rfl, show (⟨#[71, 69, 84, 32, 47, 32, 72, 84, 84, 80, 47, 49, 46, 48, 13, 10, 13, 10]⟩ : ByteArray) = mk awB from rfl,
    show (⟨#[84, 104, 101, 32, 66, 101, 97, 99, 104, 32, 97, 116, 32, 83, 37, 67, 51, 37, 65, 56, 116, 101]⟩ : ByteArray) = mk awC from rfl, parseF awA (by decide), parseF awB (by decide), slugF awC (by decide), req_a, req_b, slug_c]
  simp only [Option.bind_some, reqT, zq, tl_mk]
  simp [pairsB]
end Go.Proofs.YteonhdfjfjpbjaaGreatDoor.Sp
/- SpBd -/
namespace Go.Proofs.YteonhdfjfjpbjaaGreatDoor.Sp
open Go Go.RowKit Go.Proofs.YteonhdfjfjpbjaaGreatDoorW.PrintWords Go.Proofs.YteonhdfjfjpbjaaGreatDoorW.PrintLast Go.Proofs.YteonhdfjfjpbjaaGreatDoor.O Go.Proofs.YteonhdfjfjpbjaaGreatDoor.P
set_option linter.unusedVariables false
set_option linter.unusedSimpArgs false
theorem one_dig (u : Nat) (h : u < 10) : strOfNums [((48 + u : Nat) : Int)] = mk [UInt8.ofNat (48 + u)] := rfl
theorem digits_l0 (j : Nat) : ∀ (k u : Nat) (acc : L), u < 10 ^ (j + 1) → u < 1000000000000 → j + 1 ≤ k → acc.length + j ≤ 1000000000 →
    broadsheetref03_digits.l0 k (u : Int) (mk acc) = some (mk (Lib.decDigits u ++ acc)) := by
  induction j with
  | zero =>
    intro k u acc hu hb hk ha
    obtain ⟨k, rfl⟩ : ∃ k', k = k' + 1 := ⟨k - 1, by omega⟩
    have hw : (wrap64 (48 + (u : Int))) % 256 = ((48 + u : Nat) : Int) := by rw [wrap_id (by omega) (by omega)]; omega
    rw [broadsheetref03_digits.l0, if_neg (by omega), if_pos (by simp)]
    simp only [List.nil_append, Option.bind_some]
    rw [hw, one_dig u (by omega), if_pos (by rw [mk_size, mk_size]; simp only [List.length_singleton]; omega), mk_append, Lib.decDigits, dif_pos (by omega)]
  | succ j ih =>
    intro k u acc hu hb hk ha
    obtain ⟨k, rfl⟩ : ∃ k', k = k' + 1 := ⟨k - 1, by omega⟩
    by_cases h : u < 10
    · have hw : (wrap64 (48 + (u : Int))) % 256 = ((48 + u : Nat) : Int) := by rw [wrap_id (by omega) (by omega)]; omega
      rw [broadsheetref03_digits.l0, if_neg (by omega), if_pos (by simp)]
      simp only [List.nil_append, Option.bind_some]
      rw [hw, one_dig u h, if_pos (by rw [mk_size, mk_size]; simp only [List.length_singleton]; omega), mk_append, Lib.decDigits, dif_pos h]
    · have em : Int.tmod (u : Int) 10 = ((u % 10 : Nat) : Int) := by rw [Int.tmod_eq_emod_of_nonneg (by omega)]; omega
      have ed : Int.tdiv (u : Int) 10 = ((u / 10 : Nat) : Int) := by rw [Int.tdiv_eq_ediv_of_nonneg (by omega)]; omega
      have hw : (wrap64 (48 + ((u % 10 : Nat) : Int))) % 256 = ((48 + u % 10 : Nat) : Int) := by rw [wrap_id (by omega) (by omega)]; omega
      rw [broadsheetref03_digits.l0, if_pos (by omega), if_pos (by simp), em, ed, wrap_id (x := ((u / 10 : Nat) : Int)) (by omega) (by omega)]
      simp only [List.nil_append, Option.bind_some]
      rw [hw, one_dig (u % 10) (by omega), if_pos (by rw [mk_size, mk_size]; simp only [List.length_singleton]; omega), mk_append,
        ih k (u / 10) _ (by rw [Nat.pow_succ] at hu; omega) (by omega) (by omega) (by simp only [List.length_append, List.length_singleton]; omega)]
      conv => rhs; rw [Lib.decDigits, dif_neg h]
      simp
theorem digF (n : Int) (k : Nat) (hk : 20 ≤ k) (h0 : 0 ≤ n) (h : n < 1000000000000) : broadsheetref03_Digits.f k n = some (mk (Mn.dec n)) := by
  obtain ⟨u, rfl⟩ := Int.eq_ofNat_of_zero_le h0
  unfold broadsheetref03_Digits.f broadsheetref03_digits.f
  have := digits_l0 12 k u [] (by omega) (by omega) (by omega) (by simp)
  rw [if_neg (by omega), show (⟨#[]⟩ : ByteArray) = mk [] from rfl, this, Option.bind_some, List.append_nil]
  rfl
theorem dec_ln (n : Int) (h : n < 1000000000000) : (Mn.dec n).length ≤ 12 := Mn.dec_len 11 n.toNat (by omega)
theorem prs_parts (l : List (L × L)) : ∀ q ∈ l, q.1.length + q.2.length ≤ (prs l).length := by
  induction l with
  | nil => intro q hq; simp at hq
  | cons x r ih =>
    intro q hq
    simp only [prs, List.length_append, List.length_cons]
    rcases List.mem_cons.1 hq with rfl | hq
    · omega
    · have := ih q hq; omega
theorem path_l0 (p : L) (l : List S49) (b head : ByteArray) (a : Int) (hp : p.length ≤ 1000) : ∀ (d k i : Nat), i + d = p.length → d < k →
    (broadsheetlaw20_RequestBack.l0 k (mk p) l b a true head (i : Int) = some true) ∨ ((p.drop i).all tgB = true ∧ broadsheetlaw20_RequestBack.l0 k (mk p) l b a true head (i : Int) = broadsheetlaw20_RequestBack.l0 (k - d) (mk p) l b a true head (p.length : Int)) := by
  intro d
  induction d with
  | zero =>
    intro k i hi hk
    obtain rfl : i = p.length := by omega
    exact Or.inr ⟨by rw [List.drop_length]; rfl, rfl⟩
  | succ d ih =>
    intro k i hi hk
    obtain ⟨k, rfl⟩ : ∃ k', k = k' + 1 := ⟨k - 1, by omega⟩
    obtain ⟨c, e1, e2⟩ := mk_bt p i (by omega)
    have hc := c.toNat_lt
    have e : broadsheetlaw20_RequestBack.l0 (k + 1) (mk p) l b a true head (i : Int) = if tgB c = true then broadsheetlaw20_RequestBack.l0 k (mk p) l b a true head ((i + 1 : Nat) : Int) else some true := by
      rw [broadsheetlaw20_RequestBack.l0, if_pos (by rw [mk_size]; omega), if_pos (by omega), e2, w1 i (by omega)]
      by_cases h1 : (c.toNat : Int) < 33
      · rw [if_pos h1, if_neg (by unfold tgB; simp; omega)]
      · rw [if_neg h1]
        by_cases h2 : (c.toNat : Int) > 126
        · rw [if_pos h2, if_neg (by unfold tgB; simp; omega)]
        · rw [if_neg h2]
          by_cases h3 : (c.toNat : Int) = 35
          · rw [if_pos h3, if_neg (by unfold tgB; simp; omega)]
          · rw [if_neg h3, if_pos (by unfold tgB; simp; omega)]
    rw [e, e1, List.all_cons, Nat.add_sub_add_right]
    by_cases h : tgB c = true
    · rw [if_pos h, h, Bool.true_and]
      exact ih k (i + 1) (by omega) (by omega)
    · rw [if_neg h]
      exact Or.inl rfl
theorem back_l1 (p b : L) (l : List (L × L)) (hp : p.length ≤ 1000) (hl : l.length ≤ 1000) : ∀ (d k i : Nat), i + d = l.length → d < k →
    broadsheetlaw20_RequestBack.l1 k (mk p) (pairsB l) (mk b) true (i : Int) (mk postL) (mk (47 :: p)) (pairsB ((headC l b).map lowP)) (mk b) (mk postL) (mk (47 :: p)) (pairsB ((headT l).map lowP)) (mk b) = some true := by
  intro d
  induction d with
  | zero =>
    intro k i hi hk
    obtain ⟨k, rfl⟩ : ∃ k', k = k' + 1 := ⟨k - 1, by omega⟩
    rw [broadsheetlaw20_RequestBack.l1, if_neg (by rw [pairsB_len]; omega), if_pos rfl, tl_mk, if_pos (show postL = ([80, 79, 83, 84] : List UInt8) from rfl), if_pos (by rw [mk_size]; omega), show (⟨#[47]⟩ : ByteArray) = mk [47] from rfl, mk_append, if_pos (show (mk (47 :: p)).toList = (mk ([47] ++ p)).toList from rfl), if_pos rfl, if_pos (show (mk (47 :: p)).toList = (mk ([47] ++ p)).toList from rfl), beq_self_eq_true]
  | succ d ih =>
    intro k i hi hk
    obtain ⟨k, rfl⟩ : ∃ k', k = k' + 1 := ⟨k - 1, by omega⟩
    have hlt : i < l.length := by omega
    have hm1 : ((headC l b).map lowP)[i + 2]? = some (lowP l[i]) := by
      show (l.map lowP)[i]? = _
      rw [List.getElem?_map, List.getElem?_eq_getElem hlt]; rfl
    have hm2 : ((headT l).map lowP)[i + 2]? = some (lowP l[i]) := by
      show (l.map lowP)[i]? = _
      rw [List.getElem?_map, List.getElem?_eq_getElem hlt]; rfl
    have n1 : (pairsB ((headC l b).map lowP)).length = l.length + 2 := by rw [pairsB_len, List.length_map]; rfl
    have n2 : (pairsB ((headT l).map lowP)).length = l.length + 2 := by rw [pairsB_len, List.length_map]; rfl
    rw [broadsheetlaw20_RequestBack.l1, if_pos (by rw [pairsB_len]; omega), w2 i (by omega), if_pos (by omega), if_pos (by rw [n1]; omega), if_pos (by omega), rd_pairs _ (i + 2) _ hm1, rd_pairs l i l[i] (List.getElem?_eq_getElem hlt), rd_pairs _ (i + 2) _ hm2]
    simp only
    rw [if_pos (show (mk (lowP l[i]).2).toList = (mk l[i].2).toList from rfl), if_pos (by rw [n2]; omega), if_pos (show (mk (lowP l[i]).2).toList = (mk l[i].2).toList from rfl), w1 i (by omega)]
    exact ih k (i + 1) (by omega) (by omega)
theorem back_end (p b : L) (l : List (L × L)) (a : Int) (k : Nat) (hp : p.length ≤ 1000) (hb : b.length ≤ 1000) (ha : 0 ≤ a ∧ a ≤ 255) (hok : l.all okP = true) (hh : (prs l).length + 2 ≤ 1000) (ht : p.all tgB = true) (hk : 3000000 ≤ k) :
    broadsheetlaw20_RequestBack.l0 k (mk p) (pairsB l) (mk b) a true (mk (prs l ++ [13, 10])) (p.length : Int) = some true := by
  obtain ⟨k, rfl⟩ : ∃ k', k = k' + 1 + 1 := ⟨k - 2, by omega⟩
  have hl := prs_len l
  have hls := prs_parts l
  have hj : ∀ n, (get l n).1.length ≤ 140737488355328 := fun n => Nat.le_trans (get_bound l n (by omega) (fun q hq => by have := hls q hq; omega)) (by decide)
  have hpp : ∀ q ∈ l, q.1.length ≤ 1000 := fun q hq => by have := hls q hq; omega
  have c1 : (get l hostL).2 = ((vals l hostL).length : Int) := rfl
  have c2 : (get l clenL).2 = ((vals l clenL).length : Int) := rfl
  have c3 : (get l tencL).2 = ((vals l tencL).length : Int) := rfl
  have d1 := vals_len l hostL
  have d2 := vals_len l clenL
  have d3 := vals_len l tencL
  have hdl := dec_ln (b.length : Int) (by omega)
  rw [broadsheetlaw20_RequestBack.l0, if_neg (by rw [mk_size]; omega), show (⟨#[104, 111, 115, 116]⟩ : ByteArray) = mk hostL from rfl, show (⟨#[99, 111, 110, 116, 101, 110, 116, 45, 108, 101, 110, 103, 116, 104]⟩ : ByteArray) = mk clenL from rfl, show (⟨#[116, 114, 97, 110, 115, 102, 101, 114, 45, 101, 110, 99, 111, 100, 105, 110, 103]⟩ : ByteArray) = mk tencL from rfl,
    rgetF l hostL 1000 _ (by omega) (by decide) (by omega) hpp (hj _) (by omega), Option.bind_some, rgetF l clenL 1000 _ (by omega) (by decide) (by omega) hpp (hj _) (by omega), Option.bind_some, rgetF l tencL 1000 _ (by omega) (by decide) (by omega) hpp (hj _) (by omega), Option.bind_some]
  simp only
  rw [wrap_id (x := (get l hostL).2 + (get l clenL).2) (by omega) (by omega), wrap_id (x := (get l hostL).2 + (get l clenL).2 + (get l tencL).2) (by omega) (by omega)]
  by_cases h : (get l hostL).2 + (get l clenL).2 + (get l tencL).2 > 0
  · rw [if_pos h]
  rw [if_neg h]
  have v1 : vals l hostL = [] := vals_none (by omega)
  have v2 : vals l clenL = [] := vals_none (by omega)
  have v3 : vals l tencL = [] := vals_none (by omega)
  have eA : (⟨#[80, 79, 83, 84, 32, 47]⟩ : ByteArray) = mk [80, 79, 83, 84, 32, 47] := rfl
  have eB : (⟨#[32, 72, 84, 84, 80, 47, 49, 46, 49, 13, 10, 72, 111, 115, 116, 58, 32, 104, 13, 10]⟩ : ByteArray) = mk [32, 72, 84, 84, 80, 47, 49, 46, 49, 13, 10, 72, 111, 115, 116, 58, 32, 104, 13, 10] := rfl
  have eC : (⟨#[67, 111, 110, 116, 101, 110, 116, 45, 76, 101, 110, 103, 116, 104, 58, 32]⟩ : ByteArray) = mk [67, 111, 110, 116, 101, 110, 116, 45, 76, 101, 110, 103, 116, 104, 58, 32] := rfl
  have eD : (⟨#[84, 114, 97, 110, 115, 102, 101, 114, 45, 69, 110, 99, 111, 100, 105, 110, 103, 58, 32, 67, 104, 117, 110, 107, 101, 100, 13, 10]⟩ : ByteArray) = mk [84, 114, 97, 110, 115, 102, 101, 114, 45, 69, 110, 99, 111, 100, 105, 110, 103, 58, 32, 67, 104, 117, 110, 107, 101, 100, 13, 10] := rfl
  have eN : (⟨#[13, 10]⟩ : ByteArray) = mk [13, 10] := rfl
  have hS1 : ((((([80, 79, 83, 84, 32, 47] ++ p) ++ [32, 72, 84, 84, 80, 47, 49, 46, 49, 13, 10, 72, 111, 115, 116, 58, 32, 104, 13, 10]) ++ [67, 111, 110, 116, 101, 110, 116, 45, 76, 101, 110, 103, 116, 104, 58, 32]) ++ Mn.dec (b.length : Int)) ++ [13, 10]) ++ (prs l ++ [13, 10]) ++ b = (postL ++ 32 :: ((47 :: p) ++ 32 :: httpL)) ++ 13 :: 10 :: (prs (headC l b) ++ 13 :: 10 :: b) := by
    simp [headC, prs, HostL, CLenL, postL, httpL]
  have hS2 : ∀ t : L, ((([80, 79, 83, 84, 32, 47] ++ p) ++ [32, 72, 84, 84, 80, 47, 49, 46, 49, 13, 10, 72, 111, 115, 116, 58, 32, 104, 13, 10]) ++ [84, 114, 97, 110, 115, 102, 101, 114, 45, 69, 110, 99, 111, 100, 105, 110, 103, 58, 32, 67, 104, 117, 110, 107, 101, 100, 13, 10]) ++ (prs l ++ [13, 10]) ++ t = (postL ++ 32 :: ((47 :: p) ++ 32 :: httpL)) ++ 13 :: 10 :: (prs (headT l) ++ 13 :: 10 :: t) := by
    intro t
    simp [headT, prs, HostL, TEncL, ChunkedL, postL, httpL]
  have hlC : (prs (headC l b)).length + 2 ≤ 8000 := by simp only [headC, prs, HostL, CLenL, List.length_append, List.length_cons, List.length_nil]; omega
  have hlT : (prs (headT l)).length + 2 ≤ 8000 := by simp only [headT, prs, HostL, TEncL, ChunkedL, List.length_append, List.length_cons, List.length_nil]; omega
  have hen := enc_len b (1 + a).toNat (by omega) (by omega)
  have hE : encR b (1 + a) = (enc b (1 + a).toNat, 0) := by unfold encR; rw [if_neg (by omega), if_neg (by omega)]
  have r1 := req_back (more := b) ht hp (ok_C b hok) hlC (host_C v1) (body_C v2 v3 hb)
  have r2 := req_back (more := enc b (1 + a).toNat) ht hp (ok_T hok) hlT (host_T v1) (body_T (1 + a).toNat (by omega) v2 v3 hb)
  rw [eA, eB, eC, eD, eN]
  simp only [mk_append, mk_size]
  rw [if_pos (by omega), if_pos (by simp only [List.length_append, List.length_cons, List.length_nil]; omega), if_pos (by simp only [List.length_append, List.length_cons, List.length_nil]; omega), digF _ _ (by omega) (by omega) (by omega), Option.bind_some]
  simp only [mk_append, mk_size]
  rw [if_pos (by simp only [List.length_append, List.length_cons, List.length_nil]; omega), if_pos (by simp only [List.length_append, List.length_cons, List.length_nil]; omega), if_pos (by simp only [List.length_append, List.length_cons, List.length_nil]; omega), if_pos (by simp only [List.length_append, List.length_cons, List.length_nil]; omega)]
  rw [parseF _ (by simp only [List.length_append, List.length_cons, List.length_nil]; omega), hS1, r1, Option.bind_some, wrap_id (x := a) (by omega) (by omega), wrap_id (x := 1 + a) (by omega) (by omega), rencodeF b _ _ (by omega), hE, Option.bind_some]
  simp only [mk_append, mk_size]
  rw [if_pos (by simp only [List.length_append, List.length_cons, List.length_nil]; omega), if_pos (by simp only [List.length_append, List.length_cons, List.length_nil]; omega), if_pos (by simp only [List.length_append, List.length_cons, List.length_nil]; omega)]
  rw [parseF _ (by simp only [List.length_append, List.length_cons, List.length_nil]; omega), hS2, r2, Option.bind_some]
  have n1 : ((pairsB ((headC l b).map lowP)).length : Int) = wrap64 (((pairsB l).length : Int) + 2) := by rw [pairsB_len, pairsB_len, w2 _ (by omega), List.length_map]; rfl
  have n2 : ((pairsB ((headT l).map lowP)).length : Int) = wrap64 (((pairsB l).length : Int) + 2) := by rw [pairsB_len, pairsB_len, w2 _ (by omega), List.length_map]; rfl
  simp only [reqT, if_true]
  refine (if_pos n1).trans ?_
  rw [n2, bne_self_eq_false, broadsheetlaw20_RequestBack.j2, if_neg (by decide)]
  exact back_l1 p b l hp (by omega) l.length k 0 (by omega) (by omega)
theorem back_all (path : ByteArray) (l : List S49) (body : ByteArray) (a : Int) (hw : wt (l.map fun x => (x.f0.data.toList, x.f1.data.toList)) ≤ 2000000) (ha : 0 ≤ a ∧ a ≤ 255) :
    ∃ k, broadsheetlaw20_RequestBack.f k path l body a = some true := by
  refine ⟨9000000, ?_⟩
  have hps : pairsB (l.map fun x => (x.f0.data.toList, x.f1.data.toList)) = l := by
    unfold pairsB
    rw [List.map_map]
    conv => rhs; rw [← List.map_id l]
    refine List.map_congr_left fun x _ => ?_
    simp only [Function.comp, mk_self, id]
  rw [← hps, ← mk_self path, ← mk_self body]
  generalize (l.map fun x => (x.f0.data.toList, x.f1.data.toList)) = q at *
  generalize path.data.toList = p at *
  generalize body.data.toList = b at *
  unfold broadsheetlaw20_RequestBack.f
  rw [awake20, Option.bind_some, if_pos rfl, rprintW q _ hw (by omega), Option.bind_some]
  simp only
  have hbad : ∀ x : ByteArray, broadsheetlaw20_RequestBack.j0 9000000 (mk p) (pairsB q) (mk b) a true x true = some true := fun x => by
    rw [show (9000000 : Nat) = 8999999 + 1 from rfl, broadsheetlaw20_RequestBack.j0, if_pos rfl]
  by_cases h0 : (printS q).2 = 0
  · rw [if_pos h0, mk_size, mk_size, mk_size]
    by_cases h1 : ((printS q).1.length : Int) > 1000
    · rw [if_pos h1]; exact hbad _
    rw [if_neg h1]
    by_cases h2 : (b.length : Int) > 1000
    · rw [if_pos h2]; exact hbad _
    rw [if_neg h2]
    by_cases h3 : (p.length : Int) > 1000
    · rw [decide_eq_true h3]; exact hbad _
    rw [decide_eq_false h3, show (9000000 : Nat) = 8999999 + 1 from rfl, broadsheetlaw20_RequestBack.j0, if_neg (by decide)]
    obtain ⟨g1, g2⟩ : q.all okP = true ∧ (printS q).1 = prs q ++ [13, 10] := by
      unfold printS at h0 ⊢
      split at h0
      · rename_i e1
        split at h0
        · cases h0
        · rename_i e2
          rw [if_pos e1, if_neg e2]
          exact ⟨e1, rfl⟩
      · cases h0
    rw [g2] at h1 ⊢
    rw [List.length_append] at h1
    simp only [List.length_cons, List.length_nil] at h1
    rcases path_l0 p (pairsB q) (mk b) (mk (prs q ++ [13, 10])) a (by omega) p.length 8999999 0 (by omega) (by omega) with h | ⟨e1, e2⟩
    · exact h
    · rw [List.drop_zero] at e1
      refine Eq.trans e2 ?_
      exact back_end p b q a _ (by omega) (by omega) ha g1 (by omega) e1 (by omega)
  · rw [if_neg h0]; exact hbad _
end Go.Proofs.YteonhdfjfjpbjaaGreatDoor.Sp
/- CardW -/
namespace Go.Proofs.YteonhdfjfjpbjaaGreatDoor.Cg
open Go.RowKit Go.Proofs.YteonhdfjfjpbjaaGreatDoor.P Go.Proofs.YteonhdfjfjpbjaaGreatDoorW.PrintWords Go.Proofs.YteonhdfjfjpbjaaGreatDoorW.PrintLast Go.Proofs.YteonhdfjfjpbjaaGreatDoor.O
open Go.ChangeShapes Go.WideShapes Go.Deep
set_option linter.unusedVariables false
theorem var_iface {W : World} {n nm : String} {d : DataW Unit} {g t : Nat} {ms : Array (String × TypeId)} (h : Lib.VarReads Tryz.prog W n (.iface nm d)) (hg : Tryz.prog.globalNamed n = some g) (ht : (Tryz.prog.globals[g]?).map (·.type) = some t) (hi : Tryz.prog.underlying t = some (.interface ms)) :
    ∃ t p, W.var? Tryz.prog n = some #[.iface t p] := by
  obtain ⟨g', t', cs, fuel, p, hg', ht', hv, hd⟩ := h
  obtain rfl := Option.some.inj (hg.symm.trans hg')
  obtain rfl := Option.some.inj (ht.symm.trans ht')
  obtain ⟨_, u, v, e, _, _⟩ := iface_of_trod hi hd
  refine ⟨u, v, ?_⟩
  rw [hv]
  cases cs
  simp only at e
  rw [e]
theorem bulk_rows {H : Type} (f : Nat → S49) (D0 D1 : Nat → DataW H) : ∀ is : List Nat, (∀ i ∈ is, D0 i = .lit (.string (f i).f0.data.toList) ∧ D1 i = .lit (.string (f i).f1.data.toList)) →
    Sp.wt ((is.map f).map fun x => (x.f0.data.toList, x.f1.data.toList)) ≤ Rows.uptoBulkAll (is.map fun i => DataW.agg [D0 i, D1 i])
  | [], _ => by simp [Sp.wt, Rows.uptoBulkAll]
  | i :: r, h => by
    have ih := bulk_rows f D0 D1 r (fun j hj => h j (List.mem_cons_of_mem _ hj))
    obtain ⟨e0, e1⟩ := h i List.mem_cons_self
    simp only [List.map_cons, Sp.wt, Rows.uptoBulkAll, Rows.uptoBulk, e0, e1]
    omega
theorem pairs_bulk {H : Type} {enc : TypeId × Value → H} {W : World} {v : Value} {d : DataW H} {p : List MemPlace} (h : DataW.Trod enc Tryz.prog W 0 (fun _ => true) true 34 v d p) (hv : ∃ a len cap, v = .slice a len cap) :
    ∃ A c l, v = .slice A l.length c ∧ l.length ≤ c ∧ Kd.C k49 W A l.length l ∧ Sp.wt (l.map fun x => (x.f0.data.toList, x.f1.data.toList)) ≤ Rows.uptoBulk d := by
  obtain ⟨a, len, cap, rfl⟩ := hv
  obtain ⟨fuel, hf⟩ := h
  rcases open_slice_pairs Tryz.underlying34 Tryz.underlying49 (by kernel_rfl) rfl rfl (by kernel_rfl) (by kernel_rfl) hf with ⟨hcs, _⟩ | ⟨a', len', cap', m, n, V0, V1, D0, D1, P0, P1, hcs, _, hl, hm, hmm, hx, hi⟩
  · simp [Value.cells] at hcs
    obtain ⟨rfl, rfl, rfl⟩ := hcs
    exact ⟨none, 0, [], rfl, Nat.le_refl _, ⟨rfl, by simp, fun h => absurd h (by simp)⟩, by simp [Sp.wt]⟩
  · simp [Value.cells] at hcs
    obtain ⟨rfl, rfl, rfl⟩ := hcs
    have hlm : len ≤ m := by rw [hmm]; split <;> omega
    have hd : d = .slice ((List.range len).map fun i => .agg [D0 i, D1 i]) ((List.range (m - len)).map fun j => .agg [D0 (len + j), D1 (len + j)]) := congrArg Prod.fst hx
    have key : ∀ i, ∃ r : S49, i < len → (D0 i = .lit (.string r.f0.data.toList) ∧ D1 i = .lit (.string r.f1.data.toList)) ∧ ∀ j u, [Value.string r.f0, .string r.f1][j]? = some u → W.cell? (a'.add (i * 2 + j)) = some u := by
      intro i
      by_cases hil : i < len
      · obtain ⟨f0, f1, t0, t1⟩ := hi i (by omega)
        obtain ⟨s0, e0, x0, _⟩ := DataW.trod_string Tryz.underlying9 t0
        obtain ⟨s1, e1, x1, _⟩ := DataW.trod_string Tryz.underlying9 t1
        have g0 : V0 i = .string s0 := by simpa using e0
        have g1 : V1 i = .string s1 := by simpa using e1
        refine ⟨⟨s0, s1⟩, fun _ => ⟨⟨congrArg Prod.fst x0, congrArg Prod.fst x1⟩, fun j u hu => ?_⟩⟩
        have hj : j < 2 := (List.getElem?_eq_some_iff.1 hu).1
        have : j = 0 ∨ j = 1 := by omega
        rcases this with rfl | rfl
        · obtain rfl := Option.some.inj hu
          rw [← g0]; exact f0
        · obtain rfl := Option.some.inj hu
          rw [← g1]; exact f1
      · exact ⟨z49, fun h => absurd h hil⟩
    obtain ⟨f, hf'⟩ := Classical.axiomOfChoice key
    have hlen : ((List.range len).map f).length = len := by simp
    refine ⟨some a', cap, (List.range len).map f, by simp, by simpa using hl, ⟨rfl, ?_, fun _ => ⟨a', rfl, fun j x hx => ?_⟩⟩, ?_⟩
    · rw [hlen]; unfold maxLen at hm; omega
    · rw [List.getElem?_map] at hx
      obtain ⟨i, hi', rfl⟩ := Option.map_eq_some_iff.1 hx
      have hjl : j < len := by
        have := (List.getElem?_eq_some_iff.1 hi').1
        simpa using this
      have : i = j := by
        rw [List.getElem?_range hjl] at hi'
        exact (Option.some.inj hi').symm
      subst this
      exact ⟨_, rfl, k49_mk _ _, (hf' i hjl).2⟩
    · have := bulk_rows f D0 D1 (List.range len) (fun i hi' => (hf' i (List.mem_range.1 hi')).1)
      rw [hd]
      simp only [Rows.uptoBulk]
      omega
abbrev laidL : List (String × DataW Unit) := Rows.chunkLongRow.laid
theorem glob_of {W : World} (h : laidMetH Tryz.prog laidL W) (hsh : W.ShapedOpen Tryz.prog) : Glob W := by
  rw [MakeChecks.laidMetH_plain _ _ _ (by kernel_rfl)] at h
  refine ⟨?_, ?_, ?_, ?_, ?_⟩
  · obtain ⟨g', t', cs, fuel, p, hg', ht', hv, hd⟩ := Lib.laidMet.reads h (n := "internal/strconv.uint64pow10") (d := Rows.laid_internal_strconv_uint64pow10) (.tail _ (.tail _ (.head _)))
    obtain rfl := Option.some.inj (gpow.symm.trans hg')
    obtain rfl := Option.some.inj ((show (Tryz.prog.globals[0]?).map (·.type) = some 138 by kernel_rfl).symm.trans ht')
    have hd' : DataW.trod (fun _ => ()) Tryz.prog W 0 (fun _ => true) false fuel 138 cs.toList = some (Lib.tabData .u64 (Lib.pow10Tab), p) := hd
    unfold Lib.TabIs
    rw [hv, ← Lib.cells_of_tab Tryz.underlying138 Tryz.underlying82 (by kernel_rfl) (by kernel_rfl) hd']
  · have hb : ((begin Tryz.prog (fun _ _ => 0) default).world.heap[1]?).bind Obj.row? = some (#[.int .i64 0], 3) := by kernel_rfl
    obtain ⟨m, hm⟩ := cell_of_shapedOpen_int hsh (of_decide_eq_true (by kernel_rfl)) hb rfl (by kernel_rfl) (by kernel_rfl) Tryz.underlying3
    obtain ⟨cs, hh, hs, _⟩ := hsh.1 _ _ _ (of_decide_eq_true (by kernel_rfl)) hb
    refine ⟨m, ?_⟩
    have h1 : 0 < cs.size := by rw [hs]; decide
    have hc : cs[0] = .int .i64 m := by
      have : W.cell? ⟨1, 0, none⟩ = some cs[0] := by simp [World.cell?, hh, h1]
      exact Option.some.inj (this.symm.trans hm)
    unfold World.var?
    rw [gmlen]
    simp only [Option.bind_some, hh]
    congr 1
    apply Array.ext
    · rw [hs]; rfl
    · intro i hi1 hi2
      have : i = 0 := by rw [hs] at hi1; simp at hi1; exact hi1
      subst this
      rw [hc]; rfl
  · exact var_iface (Lib.laidMet.reads h (n := "strconv.ErrSyntax") (d := Rows.laid_strconv_ErrSyntax) (.tail _ (.tail _ (.tail _ (.tail _ (.tail _ (.head _))))))) gsyn (by kernel_rfl) Tryz.underlying56
  · exact var_iface (Lib.laidMet.reads h (n := "strconv.ErrRange") (d := Rows.laid_strconv_ErrRange) (.tail _ (.tail _ (.tail _ (.tail _ (.head _)))))) grng (by kernel_rfl) Tryz.underlying56
  · obtain ⟨g', t', cs, fuel, p, hg', ht', hv, hd⟩ := Lib.laidMet.reads h (n := "math/bits.deBruijn64tab") (d := Rows.laid_math_bits_deBruijn64tab) (.tail _ (.head _))
    obtain rfl := Option.some.inj (gbru.symm.trans hg')
    obtain rfl := Option.some.inj ((show (Tryz.prog.globals[7]?).map (·.type) = some 164 by kernel_rfl).symm.trans ht')
    have hd' : DataW.trod (fun _ => ()) Tryz.prog W 0 (fun _ => true) false fuel 164 cs.toList = some (Lib.tabData .u8 (Lib.deBruijn64tab.map Int.ofNat), p) := hd
    unfold Lib.TabIs
    rw [hv, ← Lib.cells_of_tab Tryz.underlying164 Tryz.underlying5 (by kernel_rfl) (by kernel_rfl) hd']
end Go.Proofs.YteonhdfjfjpbjaaGreatDoor.Cg
