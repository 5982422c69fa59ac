/- Texts of this seat, joined: lemmas and walks that its statements' proofs use. -/
import Derived.Test.YtghfbhobpodoeaaDoorK1
import Derived.Test.YtghfbhobpodoeaaDoorK2
/- Px16 -/
namespace Go.Proofs.YtghfbhobpodoeaaDoor.P
open Go.Proofs.YtghfbhobpodoeaaDoor.B
open Go.RowKit Go.Proofs.YtghfbhobpodoeaaDoorW.PrintWords Go.Proofs.YtghfbhobpodoeaaDoorW.PrintLast Go.Proofs.YtghfbhobpodoeaaDoorW.PrintMore
attribute [local go_sem] run_store_float str_leq str_gtr str_geq max2_int min2_int max_two min_two max_three min_three max_four min_four
set_option linter.unusedVariables false
set_option linter.unusedSimpArgs false
def broadsheetref13_Skip.l0 : Nat → ByteArray → Option (ByteArray)
  | 0, _ => none
  | k + 1, x0 => if (x0.size : Int) > 0 then (if 0 < (x0.size : Int) then (if (bt x0 0) = 32 then (if 1 ≤ (x0.size : Int) then (broadsheetref13_Skip.l0 k (x0.extract 1 x0.size)) else (none)) else (if (bt x0 0) = 9 then (if 1 ≤ (x0.size : Int) then (broadsheetref13_Skip.l0 k (x0.extract 1 x0.size)) else (none)) else (some x0))) else (none)) else (some x0)
def broadsheetref13_Skip.f (k : Nat) (a0 : ByteArray) : Option (ByteArray) := broadsheetref13_Skip.l0 k a0
set_option maxHeartbeats 8000000 in
set_option maxRecDepth 100000 in
theorem broadsheetref13_Skip.calls (k : Nat) (a0 : ByteArray) (r : ByteArray) (w : World) (h : broadsheetref13_Skip.f k a0 = some r) :
  Calls Tryd.prog 24 #[.string a0] w fun e w' => e = .returned (.string r) ∧ Drawn0 w w' := by
 have H : (broadsheetref13_Skip.l0 k a0) = some r := h
 clear h
 have H' := Aside0.mk H
 clear H
 go_enter Tryd.func24, Tryd.ntmps24
 go_wp2
 first | go_loopg [0] k (fun kq v0 w' => ∃ (x0_1 : ByteArray), v0 = .string x0_1 ∧ Aside0 (broadsheetref13_Skip.l0 kq x0_1 = some r) ∧ Aside0 (kq ≤ k) ∧ Drawn0 w w') | (go_simp; go_loopg [0] k (fun kq v0 w' => ∃ (x0_1 : ByteArray), v0 = .string x0_1 ∧ Aside0 (broadsheetref13_Skip.l0 kq x0_1 = some r) ∧ Aside0 (kq ≤ k) ∧ Drawn0 w w'))
 case atStart => exact ⟨(a0), zb12, H', ⟨Nat.le_refl _⟩, by repeat (first | exact Drawn0.refl _ | apply Drawn0.step)⟩
 case round =>
  clear H'
  obtain ⟨x0_1, rfl, HA, HK1, ⟨m1, rfl⟩⟩ := hrel
  cases gk with
  | zero => exact absurd HA.out (by simp [broadsheetref13_Skip.l0])
  | succ k1 =>
   have H := HA.out
   clear HA
   simp only [broadsheetref13_Skip.l0] at H
   by_cases c2 : (x0_1.size : Int) > 0
   ·rw [if_pos c2] at H
    have c2b0 : decide (0 < (x0_1.size : Int)) = true := decide_eq_true c2
    have c2b1 : decide (0 < x0_1.size) = true := decide_eq_true zb38
    clear c2
    by_cases c3 : 0 < (x0_1.size : Int)
    ·rw [if_pos c3] at H
     have c3b0 : decide (0 < (x0_1.size : Int)) = true := decide_eq_true c3
     have c3b1 : decide (0 < x0_1.size) = true := decide_eq_true zb38
     clear c3
     by_cases c5 : (bt x0_1 0) = 32
     ·rw [if_pos c5] at H
      have c5b0 : ((bt x0_1 0) == 32) = true := beq_iff_eq.mpr c5
      have c5b1 : ((bt x0_1 0) != 32) = false := bne_eq_false_iff_eq.mpr c5
      clear c5
      by_cases c6 : 1 ≤ (x0_1.size : Int)
      ·rw [if_pos c6] at H
       have c6b0 := eq_true c6
       have c6b1 : decide (1 ≤ (x0_1.size : Int)) = true := decide_eq_true c6
       clear c6
       have H' := Aside0.mk H
       clear H
       have p4 : 0 ≤ (0 : Int) := zb38
       have q4 : 0 < x0_1.size := (by have : (0 : Int) < (x0_1.size : Int) := of_decide_eq_true zb6; omega)
       have hx4 : ∀ h : 0 < x0_1.size, ((x0_1[0]'h).toNat : Int) = bt x0_1 0 := bt_at x0_1 0
       clear p4
       have qi4 : (0 < (x0_1.size : Int)) = True := eq_true (of_decide_eq_true zb6)
       replace q4 := eq_true q4
       go_wp2
       go_roundg k1
       case measure => have := HK1.out; omega
       case rel => exact ⟨(x0_1.extract 1 x0_1.size), zb12, H', ⟨by have := HK1.out; omega⟩, by repeat (first | exact Drawn0.refl _ | apply Drawn0.step)⟩
      ·rw [if_neg c6] at H
       exact absurd H (by simp)
     ·rw [if_neg c5] at H
      have c5b0 : ((bt x0_1 0) == 32) = false := beq_eq_false_iff_ne.mpr c5
      have c5b1 : ((bt x0_1 0) != 32) = true := bne_iff_ne.mpr c5
      by_cases c8 : (bt x0_1 0) = 9
      ·rw [if_pos c8] at H
       have c8b0 : ((bt x0_1 0) == 9) = true := beq_iff_eq.mpr c8
       have c8b1 : ((bt x0_1 0) != 9) = false := bne_eq_false_iff_eq.mpr c8
       clear c8
       by_cases c9 : 1 ≤ (x0_1.size : Int)
       ·rw [if_pos c9] at H
        have c9b0 := eq_true c9
        have c9b1 : decide (1 ≤ (x0_1.size : Int)) = true := decide_eq_true c9
        clear c9
        have H' := Aside0.mk H
        clear H
        have p4 : 0 ≤ (0 : Int) := zb38
        have q4 : 0 < x0_1.size := (by have : (0 : Int) < (x0_1.size : Int) := of_decide_eq_true zb6; omega)
        have hx4 : ∀ h : 0 < x0_1.size, ((x0_1[0]'h).toNat : Int) = bt x0_1 0 := bt_at x0_1 0
        clear p4
        have qi4 : (0 < (x0_1.size : Int)) = True := eq_true (of_decide_eq_true zb6)
        replace q4 := eq_true q4
        have p7 : 0 ≤ (0 : Int) := zb38
        have q7 : 0 < x0_1.size := (by have : (0 : Int) < (x0_1.size : Int) := of_decide_eq_true zb6; omega)
        have hx7 : ∀ h : 0 < x0_1.size, ((x0_1[0]'h).toNat : Int) = bt x0_1 0 := bt_at x0_1 0
        clear p7
        have qi7 : (0 < (x0_1.size : Int)) = True := eq_true (of_decide_eq_true zb6)
        replace q7 := eq_true q7
        go_wp2
        go_roundg k1
        case measure => have := HK1.out; omega
        case rel => exact ⟨(x0_1.extract 1 x0_1.size), zb12, H', ⟨by have := HK1.out; omega⟩, by repeat (first | exact Drawn0.refl _ | apply Drawn0.step)⟩
       ·rw [if_neg c9] at H
        exact absurd H (by simp)
      ·rw [if_neg c8] at H
       have c8b0 : ((bt x0_1 0) == 9) = false := beq_eq_false_iff_ne.mpr c8
       have c8b1 : ((bt x0_1 0) != 9) = true := bne_iff_ne.mpr c8
       obtain rfl := Option.some.inj H
       have p4 : 0 ≤ (0 : Int) := zb38
       have q4 : 0 < x0_1.size := (by have : (0 : Int) < (x0_1.size : Int) := of_decide_eq_true zb6; omega)
       have hx4 : ∀ h : 0 < x0_1.size, ((x0_1[0]'h).toNat : Int) = bt x0_1 0 := bt_at x0_1 0
       clear p4
       have qi4 : (0 < (x0_1.size : Int)) = True := eq_true (of_decide_eq_true zb6)
       replace q4 := eq_true q4
       have p7 : 0 ≤ (0 : Int) := zb38
       have q7 : 0 < x0_1.size := (by have : (0 : Int) < (x0_1.size : Int) := of_decide_eq_true zb6; omega)
       have hx7 : ∀ h : 0 < x0_1.size, ((x0_1[0]'h).toNat : Int) = bt x0_1 0 := bt_at x0_1 0
       clear p7
       have qi7 : (0 < (x0_1.size : Int)) = True := eq_true (of_decide_eq_true zb6)
       replace q7 := eq_true q7
       go_wp2
       go_ret
       exact ⟨by first | rfl | (simp; done) | (simp [*]; done), by repeat (first | exact Drawn0.refl _ | apply Drawn0.step)⟩
    ·rw [if_neg c3] at H
     exact absurd H (by simp)
   ·rw [if_neg c2] at H
    have c2b0 : decide (0 < (x0_1.size : Int)) = false := decide_eq_false c2
    have c2b1 : decide (0 < x0_1.size) = false := decide_eq_false zb38
    clear c2
    obtain rfl := Option.some.inj H
    go_wp2
    go_ret
    exact ⟨by first | rfl | (simp; done) | (simp [*]; done), by repeat (first | exact Drawn0.refl _ | apply Drawn0.step)⟩
end Go.Proofs.YtghfbhobpodoeaaDoor.P
/- SpRsk -/
namespace Go.Proofs.YtghfbhobpodoeaaDoor.Sp
open Go Go.RowKit Go.Proofs.YtghfbhobpodoeaaDoorW.PrintWords Go.Proofs.YtghfbhobpodoeaaDoorW.PrintLast Go.Proofs.YtghfbhobpodoeaaDoor.O Go.Proofs.YtghfbhobpodoeaaDoor.P
set_option linter.unusedVariables false
set_option linter.unusedSimpArgs false
theorem w1 (i : Nat) (h : i ≤ 1000000000000) : wrap64 ((i : Int) + 1) = ((i + 1 : Nat) : Int) := by rw [wrap_id (by omega) (by omega)]; omega
theorem w2 (i : Nat) (h : i ≤ 1000000000000) : wrap64 ((i : Int) + 2) = ((i + 2 : Nat) : Int) := by rw [wrap_id (by omega) (by omega)]; omega
theorem ext1 (c : UInt8) (r : L) : (mk (c :: r)).extract 1 (mk (c :: r)).size = mk r := by rw [ext_from]; rfl
theorem rskip_l0 : ∀ (s : L) (k : Nat), s.length < k → broadsheetref13_Skip.l0 k (mk s) = some (mk (skip s))
  | [], k, hk => by
    obtain ⟨k, rfl⟩ : ∃ k', k = k' + 1 := ⟨k - 1, by omega⟩
    rw [broadsheetref13_Skip.l0, if_neg (by rw [mk_size]; simp)]
    rfl
  | c :: r, k, hk => by
    obtain ⟨k, rfl⟩ : ∃ k', k = k' + 1 := ⟨k - 1, by omega⟩
    simp only [List.length_cons] at hk
    have ih := rskip_l0 r k (by omega)
    rw [broadsheetref13_Skip.l0, if_pos (by rw [mk_size]; simp only [List.length_cons]; omega), if_pos (by rw [mk_size]; simp only [List.length_cons]; omega), bt_head]
    have h32 : ((c.toNat : Int) = 32) ↔ c = 32 := u8i c 32 (by omega)
    have h9 : ((c.toNat : Int) = 9) ↔ c = 9 := u8i c 9 (by omega)
    by_cases c32 : c = 32
    · rw [if_pos (h32.2 c32), if_pos (by rw [mk_size]; simp only [List.length_cons]; omega), ext1, ih]
      unfold skip
      rw [List.dropWhile_cons_of_pos (by simp [bl, c32])]
    · rw [if_neg (fun h => c32 (h32.1 h))]
      by_cases c9 : c = 9
      · rw [if_pos (h9.2 c9), if_pos (by rw [mk_size]; simp only [List.length_cons]; omega), ext1, ih]
        unfold skip
        rw [List.dropWhile_cons_of_pos (by simp [bl, c9])]
      · rw [if_neg (fun h => c9 (h9.1 h))]
        unfold skip
        rw [List.dropWhile_cons_of_neg (by simp [bl, c32, c9])]
theorem rskipF (s : L) (k : Nat) (hk : s.length < k) : broadsheetref13_Skip.f k (mk s) = some (mk (skip s)) := rskip_l0 s k hk
end Go.Proofs.YtghfbhobpodoeaaDoor.Sp
/- Px15 -/
namespace Go.Proofs.YtghfbhobpodoeaaDoor.P
open Go.Proofs.YtghfbhobpodoeaaDoor.B
open Go.RowKit Go.Proofs.YtghfbhobpodoeaaDoorW.PrintWords Go.Proofs.YtghfbhobpodoeaaDoorW.PrintLast Go.Proofs.YtghfbhobpodoeaaDoorW.PrintMore
attribute [local go_sem] run_store_float str_leq str_gtr str_geq max2_int min2_int max_two min_two max_three min_three max_four min_four
set_option linter.unusedVariables false
set_option linter.unusedSimpArgs false
def broadsheetlaw01_SameTexts.l0 : Nat → List ByteArray → List ByteArray → Int → Option (Bool)
  | 0, _, _, _ => none
  | k + 1, x0, x1, x5 => if x5 < (x0.length : Int) then (if 0 ≤ x5 then (if x5 < (x1.length : Int) then (if (rdOf ByteArray.empty x0 x5).toList = (rdOf ByteArray.empty x1 x5).toList then (broadsheetlaw01_SameTexts.l0 k x0 x1 (wrap64 (x5 + 1))) else (some false)) else (none)) else (none)) else (some true)
def broadsheetlaw01_SameTexts.f (k : Nat) (l0 : List ByteArray) (l1 : List ByteArray) : Option (Bool) := if (l0.length : Int) = (l1.length : Int) then (broadsheetlaw01_SameTexts.l0 k l0 l1 0) else (some false)
set_option maxHeartbeats 8000000 in
set_option maxRecDepth 100000 in
theorem broadsheetlaw01_SameTexts.calls (k : Nat) (A0 : Option Addr) (c0 : Nat) (l0 : List ByteArray) (A1 : Option Addr) (c1 : Nat) (l1 : List ByteArray) (r : Bool) (w : World) (hr0 : Kd.C Kd.string w A0 l0.length l0) (hc0 : l0.length ≤ c0) (hr1 : Kd.C Kd.string w A1 l1.length l1) (hc1 : l1.length ≤ c1) (h : broadsheetlaw01_SameTexts.f k l0 l1 = some r) :
  Calls Tryd.prog 9 #[.slice A0 l0.length c0, .slice A1 l1.length c1] w fun e w' => e = .returned (.bool r) ∧ Drawn0 w w' := by
 have HR0 := Aside0.mk hr0
 have HC0 := Aside0.mk hc0
 clear hr0 hc0
 have HR1 := Aside0.mk hr1
 have HC1 := Aside0.mk hc1
 clear hr1 hc1
 have H : (if (l0.length : Int) = (l1.length : Int) then (broadsheetlaw01_SameTexts.l0 k l0 l1 0) else (some false)) = some r := h
 clear h
 by_cases c3 : (l0.length : Int) = (l1.length : Int)
 ·rw [if_pos c3] at H
  have c3b0 : ((l0.length : Int) == (l1.length : Int)) = true := beq_iff_eq.mpr c3
  have c3b1 : ((l0.length : Int) != (l1.length : Int)) = false := bne_eq_false_iff_eq.mpr c3
  have c3b2 : (l0.length == l1.length) = true := by first | simpa using c3 | (simp at c3 ⊢; omega)
  clear c3
  have H' := Aside0.mk H
  clear H
  go_enter Tryd.func9, Tryd.ntmps9
  go_wp2
  repeat (go_quiet (fail); try go_wp2)
  first | go_loopg [5] k (fun kq v5 w' => ∃ (x5_1 : Int), v5 = .int .i64 x5_1 ∧ Aside0 (broadsheetlaw01_SameTexts.l0 kq l0 l1 x5_1 = some r) ∧ Aside0 (kq ≤ k) ∧ Drawn0 w w') | (go_simp; go_loopg [5] k (fun kq v5 w' => ∃ (x5_1 : Int), v5 = .int .i64 x5_1 ∧ Aside0 (broadsheetlaw01_SameTexts.l0 kq l0 l1 x5_1 = some r) ∧ Aside0 (kq ≤ k) ∧ Drawn0 w w'))
  case atStart => exact ⟨(0), zb12, H', ⟨Nat.le_refl _⟩, by repeat (first | exact Drawn0.refl _ | apply Drawn0.step)⟩
  case round =>
   clear H'
   try clear c1
   try clear p2
   try clear c3
   try clear c3b0
   try clear c3b1
   try clear c3b2
   obtain ⟨x5_1, rfl, HA, HK1, ⟨m1, rfl⟩⟩ := hrel
   cases gk with
   | zero => exact absurd HA.out (by simp [broadsheetlaw01_SameTexts.l0])
   | succ k1 =>
    have H := HA.out
    clear HA
    simp only [broadsheetlaw01_SameTexts.l0] at H
    by_cases c4 : x5_1 < (l0.length : Int)
    ·rw [if_pos c4] at H
     have c4b0 : decide (x5_1 < (l0.length : Int)) = true := decide_eq_true c4
     clear c4
     by_cases c5 : 0 ≤ x5_1
     ·rw [if_pos c5] at H
      have c5b0 : decide (0 ≤ x5_1) = true := decide_eq_true c5
      clear c5
      by_cases c6 : x5_1 < (l1.length : Int)
      ·rw [if_pos c6] at H
       have c6b0 : decide (x5_1 < (l1.length : Int)) = true := decide_eq_true c6
       clear c6
       by_cases c7 : (rdOf ByteArray.empty l0 x5_1).toList = (rdOf ByteArray.empty l1 x5_1).toList
       ·rw [if_pos c7] at H
        have c7b0 : ((rdOf ByteArray.empty l0 x5_1).toList == (rdOf ByteArray.empty l1 x5_1).toList) = true := beq_iff_eq.mpr c7
        have c7b1 : ((rdOf ByteArray.empty l0 x5_1).toList != (rdOf ByteArray.empty l1 x5_1).toList) = false := bne_eq_false_iff_eq.mpr c7
        clear c7
        have H' := Aside0.mk H
        clear H
        have p181 : 0 ≤ (x5_1 : Int) := of_decide_eq_true zb6
        have q181 : x5_1 < (l0.length : Int) := of_decide_eq_true zb6
        obtain ⟨ad181, e181, hx181_0⟩ := Kd.at_string HR0.out x5_1 p181 q181
        cases e181
        replace p181 := eq_true p181
        replace q181 := eq_true q181
        have p182 : 0 ≤ (x5_1 : Int) := of_decide_eq_true zb6
        have q182 : x5_1 < (l1.length : Int) := of_decide_eq_true zb6
        obtain ⟨ad182, e182, hx182_0⟩ := Kd.at_string HR1.out x5_1 p182 q182
        cases e182
        replace p182 := eq_true p182
        replace q182 := eq_true q182
        go_wp2
        repeat (go_quiet (fail); try go_wp2)
        go_roundg k1
        case measure => have := HK1.out; omega
        case rel => exact ⟨(wrap64 (x5_1 + 1)), zb12, H', ⟨by have := HK1.out; omega⟩, by repeat (first | exact Drawn0.refl _ | apply Drawn0.step)⟩
       ·rw [if_neg c7] at H
        have c7b0 : ((rdOf ByteArray.empty l0 x5_1).toList == (rdOf ByteArray.empty l1 x5_1).toList) = false := beq_eq_false_iff_ne.mpr c7
        have c7b1 : ((rdOf ByteArray.empty l0 x5_1).toList != (rdOf ByteArray.empty l1 x5_1).toList) = true := bne_iff_ne.mpr c7
        obtain rfl := Option.some.inj H
        have p181 : 0 ≤ (x5_1 : Int) := of_decide_eq_true zb6
        have q181 : x5_1 < (l0.length : Int) := of_decide_eq_true zb6
        obtain ⟨ad181, e181, hx181_0⟩ := Kd.at_string HR0.out x5_1 p181 q181
        cases e181
        replace p181 := eq_true p181
        replace q181 := eq_true q181
        have p182 : 0 ≤ (x5_1 : Int) := of_decide_eq_true zb6
        have q182 : x5_1 < (l1.length : Int) := of_decide_eq_true zb6
        obtain ⟨ad182, e182, hx182_0⟩ := Kd.at_string HR1.out x5_1 p182 q182
        cases e182
        replace p182 := eq_true p182
        replace q182 := eq_true q182
        go_wp2
        repeat (go_quiet (fail); try go_wp2)
        go_ret
        exact ⟨by first | rfl | (simp; done) | (simp [*]; done), by repeat (first | exact Drawn0.refl _ | apply Drawn0.step)⟩
      ·rw [if_neg c6] at H
       exact absurd H (by simp)
     ·rw [if_neg c5] at H
      exact absurd H (by simp)
    ·rw [if_neg c4] at H
     have c4b0 : decide (x5_1 < (l0.length : Int)) = false := decide_eq_false c4
     clear c4
     obtain rfl := Option.some.inj H
     go_wp2
     repeat (go_quiet (fail); try go_wp2)
     go_ret
     exact ⟨by first | rfl | (simp; done) | (simp [*]; done), by repeat (first | exact Drawn0.refl _ | apply Drawn0.step)⟩
 ·rw [if_neg c3] at H
  have c3b0 : ((l0.length : Int) == (l1.length : Int)) = false := beq_eq_false_iff_ne.mpr c3
  have c3b1 : ((l0.length : Int) != (l1.length : Int)) = true := bne_iff_ne.mpr c3
  have c3b2 : (l0.length == l1.length) = false := by first | simpa using c3 | (simp at c3 ⊢; omega)
  obtain rfl := Option.some.inj H
  go_enter Tryd.func9, Tryd.ntmps9
  go_wp2
  repeat (go_quiet (fail); try go_wp2)
  go_ret
  exact ⟨by first | rfl | (simp; done) | (simp [*]; done), by repeat (first | exact Drawn0.refl _ | apply Drawn0.step)⟩
mutual
def broadsheetref14_Split.l0 : Nat → ByteArray → List ByteArray → Int → Bool → Int → Option (List ByteArray)
  | 0, _, _, _, _, _ => none
  | k + 1, x0, x3, x4, x5, x6 => if x6 ≤ (x0.size : Int) then (if x6 = (x0.size : Int) then (broadsheetref14_Split.j1 k x0 x3 x4 x5 x6 true) else (if 0 ≤ x6 then (if x6 < (x0.size : Int) then (if (bt x0 x6) = 44 then (broadsheetref14_Split.j1 k x0 x3 x4 x5 x6 (!x5)) else (broadsheetref14_Split.j1 k x0 x3 x4 x5 x6 false)) else (none)) else (none))) else (some x3)
def broadsheetref14_Split.j1 : Nat → ByteArray → List ByteArray → Int → Bool → Int → Bool → Option (List ByteArray)
  | 0, _, _, _, _, _, _ => none
  | k + 1, x0, x3, x4, x5, x6, x13 => if x13 = true then (if 0 ≤ x4 then (if x4 ≤ x6 then (if x6 ≤ (x0.size : Int) then ((broadsheetref13_Skip.f k (x0.extract (x4 : Int).toNat (x6 : Int).toNat)).bind fun t183 => (if t183.toList = ([] : List UInt8) then (broadsheetref14_Split.l0 k x0 x3 (wrap64 (x6 + 1)) x5 (wrap64 (x6 + 1))) else (if x3.length < 8796093022208 then (broadsheetref14_Split.l0 k x0 (x3 ++ [x0.extract (x4 : Int).toNat (x6 : Int).toNat]) (wrap64 (x6 + 1)) x5 (wrap64 (x6 + 1))) else (none)))) else (none)) else (none)) else (none)) else (if 0 ≤ x6 then (if x6 < (x0.size : Int) then (if (bt x0 x6) = 34 then (broadsheetref14_Split.l0 k x0 x3 x4 (!x5) (wrap64 (x6 + 1))) else (if (bt x0 x6) = 92 then (if x5 = true then (if (wrap64 (x6 + 1)) < (x0.size : Int) then (broadsheetref14_Split.l0 k x0 x3 x4 x5 (wrap64 ((wrap64 (x6 + 1)) + 1))) else (broadsheetref14_Split.l0 k x0 x3 x4 x5 (wrap64 (x6 + 1)))) else (broadsheetref14_Split.l0 k x0 x3 x4 x5 (wrap64 (x6 + 1)))) else (broadsheetref14_Split.l0 k x0 x3 x4 x5 (wrap64 (x6 + 1))))) else (none)) else (none))
end
def broadsheetref14_Split.f (k : Nat) (a0 : ByteArray) : Option (List ByteArray) := broadsheetref14_Split.l0 k a0 ([] : List ByteArray) 0 false 0
set_option maxHeartbeats 8000000 in
set_option maxRecDepth 100000 in
theorem broadsheetref14_Split.calls (k : Nat) (a0 : ByteArray) (r : List ByteArray) (w : World) (h : broadsheetref14_Split.f k a0 = some r) :
  Calls Tryd.prog 11 #[.string a0] w fun e w' => ∃ v0_ : Value, e = .returned (v0_) ∧ Kd.R Kd.string 9 w' w.heap.size (fun _ => True) v0_ r ∧ Below w.heap.size w w' := by
 have HB := Aside0.mk (Below.refl w.heap.size w)
 have H : (broadsheetref14_Split.l0 k a0 ([] : List ByteArray) 0 false 0) = some r := h
 clear h
 have H' := Aside0.mk H
 clear H
 go_enter Tryd.func11, Tryd.ntmps11
 go_wp2
 first | go_loopg [3, 4, 5, 6] k (fun kq v3 v4 v5 v6 w' => ∃ (x3_1 : List ByteArray) (x4_1 : Int) (x5_1 : Bool) (x6_1 : Int), v4 = .int .i64 x4_1 ∧ v5 = .bool x5_1 ∧ v6 = .int .i64 x6_1 ∧ Aside0 (broadsheetref14_Split.l0 kq a0 x3_1 x4_1 x5_1 x6_1 = some r) ∧ Aside0 (kq ≤ k) ∧ Aside0 (Kd.R Kd.string 9 w' w.heap.size (fun _ => True) v3 x3_1) ∧ Aside0 (Below w.heap.size w w')) | (go_simp; go_loopg [3, 4, 5, 6] k (fun kq v3 v4 v5 v6 w' => ∃ (x3_1 : List ByteArray) (x4_1 : Int) (x5_1 : Bool) (x6_1 : Int), v4 = .int .i64 x4_1 ∧ v5 = .bool x5_1 ∧ v6 = .int .i64 x6_1 ∧ Aside0 (broadsheetref14_Split.l0 kq a0 x3_1 x4_1 x5_1 x6_1 = some r) ∧ Aside0 (kq ≤ k) ∧ Aside0 (Kd.R Kd.string 9 w' w.heap.size (fun _ => True) v3 x3_1) ∧ Aside0 (Below w.heap.size w w')))
 case atStart => exact ⟨(([] : List ByteArray)), (0), (false), (0), zb12, zb12, zb12, H', ⟨Nat.le_refl _⟩, ⟨by first | exact Kd.R_nil _ _ _ _ _ | exact Kd.N_nil _ _ _ _ _ | exact Kd.V_nil _ _ _ _ _ | exact Kd.Q_nil _ _ _ _ _ | exact Kd.S_nil _ _ _ _ _⟩, ⟨by repeat (first | (with_reducible first | exact HB.out | apply below_alloc | apply pw_below_drewN | apply below_drew1) | exact HB.out)⟩⟩
 case round =>
  clear H'
  try clear c1
  obtain ⟨x3_1, x4_1, x5_1, x6_1, rfl, rfl, rfl, HA, HK1, HO_3, HB⟩ := hrel
  cases gk with
  | zero => exact absurd HA.out (by simp [broadsheetref14_Split.l0])
  | succ k1 =>
   have H := HA.out
   clear HA
   simp only [broadsheetref14_Split.l0] at H
   by_cases c2 : x6_1 ≤ (a0.size : Int)
   ·rw [if_pos c2] at H
    have c2b0 : decide (x6_1 ≤ (a0.size : Int)) = true := decide_eq_true c2
    clear c2
    have HC3 := Aside0.mk H
    clear H
    go_upto_region 7 with (fail)
    go_cut [13] (fun v13 wc => ∃ (kq : Nat) (x13_2 : Bool), v13 = .bool x13_2 ∧ Aside0 (broadsheetref14_Split.j1 kq a0 x3_1 x4_1 x5_1 x6_1 x13_2 = some r) ∧ Aside0 (kq ≤ k1) ∧ Aside0 (Kd.R Kd.string 9 wc w.heap.size (fun _ => True) u3 x3_1) ∧ Aside0 (Below w.heap.size w wc))
    case first =>
     have H := HC3.out
     clear HC3
     by_cases c4 : x6_1 = (a0.size : Int)
     ·rw [if_pos c4] at H
      have c4b0 : (x6_1 == (a0.size : Int)) = true := beq_iff_eq.mpr c4
      have c4b1 : (x6_1 != (a0.size : Int)) = false := bne_eq_false_iff_eq.mpr c4
      clear c4
      (first | rw [c4b0] | (simp only [i64_w, i32_w]; rw [c4b0]) | skip)
      have H' := Aside0.mk H
      clear H
      go_wp2
      go_meet
      case rel => exact ⟨_, (true), zb12, H', ⟨by have := HK1.out; first | omega | exact Nat.le_refl _⟩, ⟨by (with_reducible repeat (first | apply Kd.R_alloc | apply Kd.R_drewN | apply Kd.R_drew)); exact HO_3.out⟩, ⟨by repeat (first | (with_reducible first | exact HB.out | apply below_alloc | apply pw_below_drewN | apply below_drew1) | exact HB.out)⟩⟩
     ·rw [if_neg c4] at H
      have c4b0 : (x6_1 == (a0.size : Int)) = false := beq_eq_false_iff_ne.mpr c4
      have c4b1 : (x6_1 != (a0.size : Int)) = true := bne_iff_ne.mpr c4
      (first | rw [c4b0] | (simp only [i64_w, i32_w]; rw [c4b0]) | skip)
      by_cases c5 : 0 ≤ x6_1
      ·rw [if_pos c5] at H
       have c5b0 : decide (0 ≤ x6_1) = true := decide_eq_true c5
       clear c5
       by_cases c6 : x6_1 < (a0.size : Int)
       ·rw [if_pos c6] at H
        have c6b0 : decide (x6_1 < (a0.size : Int)) = true := decide_eq_true c6
        clear c6
        by_cases c8 : (bt a0 x6_1) = 44
        ·rw [if_pos c8] at H
         have c8b0 : ((bt a0 x6_1) == 44) = true := beq_iff_eq.mpr c8
         have c8b1 : ((bt a0 x6_1) != 44) = false := bne_eq_false_iff_eq.mpr c8
         clear c8
         have H' := Aside0.mk H
         clear H
         have p7 : 0 ≤ (x6_1 : Int) := of_decide_eq_true zb6
         have q7 : x6_1 < (a0.size : Int) := of_decide_eq_true zb6
         have hx7 := bt_at a0 x6_1
         replace p7 := eq_true p7
         replace q7 := eq_true q7
         go_wp2
         go_meet
         case rel => exact ⟨_, (!x5_1), zb12, H', ⟨by have := HK1.out; first | omega | exact Nat.le_refl _⟩, ⟨by (with_reducible repeat (first | apply Kd.R_alloc | apply Kd.R_drewN | apply Kd.R_drew)); exact HO_3.out⟩, ⟨by repeat (first | (with_reducible first | exact HB.out | apply below_alloc | apply pw_below_drewN | apply below_drew1) | exact HB.out)⟩⟩
        ·rw [if_neg c8] at H
         have c8b0 : ((bt a0 x6_1) == 44) = false := beq_eq_false_iff_ne.mpr c8
         have c8b1 : ((bt a0 x6_1) != 44) = true := bne_iff_ne.mpr c8
         have H' := Aside0.mk H
         clear H
         have p7 : 0 ≤ (x6_1 : Int) := of_decide_eq_true zb6
         have q7 : x6_1 < (a0.size : Int) := of_decide_eq_true zb6
         have hx7 := bt_at a0 x6_1
         replace p7 := eq_true p7
         replace q7 := eq_true q7
         go_wp2
         go_meet
         case rel => exact ⟨_, (false), zb12, H', ⟨by have := HK1.out; first | omega | exact Nat.le_refl _⟩, ⟨by (with_reducible repeat (first | apply Kd.R_alloc | apply Kd.R_drewN | apply Kd.R_drew)); exact HO_3.out⟩, ⟨by repeat (first | (with_reducible first | exact HB.out | apply below_alloc | apply pw_below_drewN | apply below_drew1) | exact HB.out)⟩⟩
       ·rw [if_neg c6] at H
        exact absurd H (by simp)
      ·rw [if_neg c5] at H
       exact absurd H (by simp)
    case rest =>
     clear HC3
     try clear c1
     try clear c2
     try clear c2b0
     try clear p2
     try clear c4
     try clear c4b0
     try clear c4b1
     try clear c5
     try clear c5b0
     try clear c6
     try clear c6b0
     try clear p7
     try clear q7
     try clear hx7
     try clear c8
     try clear c8b0
     try clear c8b1
     try clear p7
     try clear q7
     obtain ⟨kq, x13_2, rfl, HA, HJ2, HO_3, HB⟩ := hcut
     cases kq with
     | zero => exact absurd HA.out (by simp [broadsheetref14_Split.j1])
     | succ kj2 =>
      have H := HA.out
      clear HA
      simp only [broadsheetref14_Split.j1] at H
      by_cases c9 : x13_2 = true
      ·subst c9
       replace H : (if 0 ≤ x4_1 then (if x4_1 ≤ x6_1 then (if x6_1 ≤ (a0.size : Int) then ((broadsheetref13_Skip.f kj2 (a0.extract (x4_1 : Int).toNat (x6_1 : Int).toNat)).bind fun t183 => (if t183.toList = ([] : List UInt8) then (broadsheetref14_Split.l0 kj2 a0 x3_1 (wrap64 (x6_1 + 1)) x5_1 (wrap64 (x6_1 + 1))) else (if x3_1.length < 8796093022208 then (broadsheetref14_Split.l0 kj2 a0 (x3_1 ++ [a0.extract (x4_1 : Int).toNat (x6_1 : Int).toNat]) (wrap64 (x6_1 + 1)) x5_1 (wrap64 (x6_1 + 1))) else (none)))) else (none)) else (none)) else (none)) = some r := by rw [if_pos rfl] at H; exact H
       by_cases c10 : 0 ≤ x4_1
       ·rw [if_pos c10] at H
        have c10b0 := eq_true c10
        have c10b1 : decide (0 ≤ x4_1) = true := decide_eq_true c10
        clear c10
        by_cases c11 : x4_1 ≤ x6_1
        ·rw [if_pos c11] at H
         have c11b0 := eq_true c11
         have c11b1 : decide (x4_1 ≤ x6_1) = true := decide_eq_true c11
         clear c11
         by_cases c12 : x6_1 ≤ (a0.size : Int)
         ·rw [if_pos c12] at H
          have c12b0 := eq_true c12
          have c12b1 : decide (x6_1 ≤ (a0.size : Int)) = true := decide_eq_true c12
          clear c12
          replace H := Option.bind_eq_some_iff.mp H
          obtain ⟨t183, A130, H⟩ := H
          replace H : (if t183.toList = ([] : List UInt8) then (broadsheetref14_Split.l0 kj2 a0 x3_1 (wrap64 (x6_1 + 1)) x5_1 (wrap64 (x6_1 + 1))) else (if x3_1.length < 8796093022208 then (broadsheetref14_Split.l0 kj2 a0 (x3_1 ++ [a0.extract (x4_1 : Int).toNat (x6_1 : Int).toNat]) (wrap64 (x6_1 + 1)) x5_1 (wrap64 (x6_1 + 1))) else (none))) = some r := H
          have A13 := Aside0.mk A130
          clear A130
          by_cases c14 : t183.toList = ([] : List UInt8)
          ·rw [if_pos c14] at H
           have c14b0 : (t183.toList == ([] : List UInt8)) = true := beq_iff_eq.mpr c14
           have c14b1 : (t183.toList != ([] : List UInt8)) = false := bne_eq_false_iff_eq.mpr c14
           clear c14
           have H' := Aside0.mk H
           clear H
           go_wp2_with (first | ((with_reducible refine gate_callee (f := 24) rfl ?_); refine goesL_ (some 32) rfl rfl Tryd.func24 zb14 rfl #[.string (a0.extract (x4_1 : Int).toNat (x6_1 : Int).toNat)] rfl zb1 ?_; (with_reducible refine (broadsheetref13_Skip.calls kj2 (a0.extract (x4_1 : Int).toNat (x6_1 : Int).toNat) t183 _ A13.out).mono ?_); rintro e w' ⟨rfl, ⟨nd, rfl⟩⟩; refine ⟨_, rfl, ?_⟩))
           go_roundg kj2
           case measure => have := HK1.out; have := HJ2.out; omega
           case rel => exact ⟨(x3_1), (wrap64 (x6_1 + 1)), (x5_1), (wrap64 (x6_1 + 1)), zb12, zb12, zb12, H', ⟨by have := HK1.out; have := HJ2.out; omega⟩, ⟨by (with_reducible repeat (first | apply Kd.R_alloc | apply Kd.R_drewN | apply Kd.R_drew)); exact HO_3.out⟩, ⟨by repeat (first | (with_reducible first | exact HB.out | apply below_alloc | apply pw_below_drewN | apply below_drew1) | exact HB.out)⟩⟩
          ·rw [if_neg c14] at H
           have c14b0 : (t183.toList == ([] : List UInt8)) = false := beq_eq_false_iff_ne.mpr c14
           have c14b1 : (t183.toList != ([] : List UInt8)) = true := bne_iff_ne.mpr c14
           have c15b0 := eq_true (of_decide_eq_true zb6 : 0 ≤ x4_1)
           have c16b0 := eq_true (of_decide_eq_true zb6 : x4_1 ≤ x6_1)
           have c17b0 := eq_true (of_decide_eq_true zb6 : x6_1 ≤ (a0.size : Int))
           by_cases c18 : x3_1.length < 8796093022208
           ·rw [if_pos c18] at H
            have LMc18 := Aside0.mk c18
            clear c18
            obtain ⟨y184, hy184⟩ : ∃ y_ : List ByteArray, y_ = (x3_1 ++ [a0.extract (x4_1 : Int).toNat (x6_1 : Int).toNat]) := ⟨_, rfl⟩
            replace H : (broadsheetref14_Split.l0 kj2 a0 y184 (wrap64 (x6_1 + 1)) x5_1 (wrap64 (x6_1 + 1))) = some r := by first | (rw [hy184]; with_reducible exact H) | (have H2_ := (Option.bind_some _ _).symm.trans H; rw [hy184]; with_reducible exact H2_) | (have H2_ := (Option.bind_some _ _).symm.trans H; with_reducible exact H2_) | with_reducible exact H | (rw [hy184]; exact H) | exact H
            have Ny184 := Aside0.mk hy184
            clear hy184
            have H' := Aside0.mk H
            clear H
            go_wp2_with (first | ((with_reducible refine gate_callee (f := 24) rfl ?_); refine goesL_ (some 32) rfl rfl Tryd.func24 zb14 rfl #[.string (a0.extract (x4_1 : Int).toNat (x6_1 : Int).toNat)] rfl zb1 ?_; (with_reducible refine (broadsheetref13_Skip.calls kj2 (a0.extract (x4_1 : Int).toNat (x6_1 : Int).toNat) t183 _ A13.out).mono ?_); rintro e w' ⟨rfl, ⟨nd, rfl⟩⟩; refine ⟨_, rfl, ?_⟩) | ((with_reducible refine gate_builtin (b := .append) (xs := #[.tmp 34, .tmp 39]) rfl ?_); (try (refine gate_guard (by rfl) ?_; dsimp only)); at_builtin; refine Kd.R_append Kd.string (w0 := w) w.heap.size rfl (.tmp 34) (.tmp 39) 24 9 (.string ⟨#[]⟩) 16 rfl Tryd.underlying24 info9 rfl (by decide) zb38 u3 x3_1 (a0.extract (x4_1 : Int).toNat (x6_1 : Int).toNat) [.string (a0.extract (x4_1 : Int).toNat (x6_1 : Int).toNat)] (fun _ => True) (fun _ => False) rfl rfl ?aP (fun _ hk => hk.elim) ?aF ?aO ?aB ?aS ?aL ?_; (case aP => exact rfl); (case aB => exact zb0); (case aF => exact (fun _ _ => trivial)); (case aO => exact (by (with_reducible repeat (first | apply Kd.R_alloc | apply Kd.R_drewN | apply Kd.R_drew)); exact HO_3.out)); (case aS => exact (below_size zb0)); (case aL => have := LMc18.out; omega); intro v185 w19 ho hb hg hat; rw [← Ny184.out] at ho; have n0_ := Aside0.mk (hb); have n1_ := Aside0.mk (ho); clear HB; clear HO_3; have HB := n0_; have HO186 := n1_; clear n0_ n1_; clear ho hb hg hat))
            go_roundg kj2
            case measure => have := HK1.out; have := HJ2.out; omega
            case rel => exact ⟨(y184), (wrap64 (x6_1 + 1)), (x5_1), (wrap64 (x6_1 + 1)), zb12, zb12, zb12, H', ⟨by have := HK1.out; have := HJ2.out; omega⟩, ⟨by (with_reducible repeat (first | apply Kd.R_alloc | apply Kd.R_drewN | apply Kd.R_drew)); exact HO186.out⟩, ⟨by repeat (first | (with_reducible first | exact HB.out | apply below_alloc | apply pw_below_drewN | apply below_drew1) | exact HB.out)⟩⟩
           ·rw [if_neg c18] at H
            exact absurd H (by simp)
         ·rw [if_neg c12] at H
          exact absurd H (by simp)
        ·rw [if_neg c11] at H
         exact absurd H (by simp)
       ·rw [if_neg c10] at H
        exact absurd H (by simp)
      ·replace c9 := Bool.eq_false_iff.mpr c9
       subst c9
       replace H : (if 0 ≤ x6_1 then (if x6_1 < (a0.size : Int) then (if (bt a0 x6_1) = 34 then (broadsheetref14_Split.l0 kj2 a0 x3_1 x4_1 (!x5_1) (wrap64 (x6_1 + 1))) else (if (bt a0 x6_1) = 92 then (if x5_1 = true then (if (wrap64 (x6_1 + 1)) < (a0.size : Int) then (broadsheetref14_Split.l0 kj2 a0 x3_1 x4_1 x5_1 (wrap64 ((wrap64 (x6_1 + 1)) + 1))) else (broadsheetref14_Split.l0 kj2 a0 x3_1 x4_1 x5_1 (wrap64 (x6_1 + 1)))) else (broadsheetref14_Split.l0 kj2 a0 x3_1 x4_1 x5_1 (wrap64 (x6_1 + 1)))) else (broadsheetref14_Split.l0 kj2 a0 x3_1 x4_1 x5_1 (wrap64 (x6_1 + 1))))) else (none)) else (none)) = some r := by rw [if_neg (show ¬ (false = true) by decide)] at H; exact H
       by_cases c20 : 0 ≤ x6_1
       ·rw [if_pos c20] at H
        have c20b0 : decide (0 ≤ x6_1) = true := decide_eq_true c20
        clear c20
        by_cases c21 : x6_1 < (a0.size : Int)
        ·rw [if_pos c21] at H
         have c21b0 : decide (x6_1 < (a0.size : Int)) = true := decide_eq_true c21
         clear c21
         by_cases c23 : (bt a0 x6_1) = 34
         ·rw [if_pos c23] at H
          have c23b0 : ((bt a0 x6_1) == 34) = true := beq_iff_eq.mpr c23
          have c23b1 : ((bt a0 x6_1) != 34) = false := bne_eq_false_iff_eq.mpr c23
          clear c23
          have H' := Aside0.mk H
          clear H
          have p22 : 0 ≤ (x6_1 : Int) := of_decide_eq_true zb6
          have q22 : x6_1 < (a0.size : Int) := of_decide_eq_true zb6
          have hx22 := bt_at a0 x6_1
          replace p22 := eq_true p22
          replace q22 := eq_true q22
          go_wp2
          go_roundg kj2
          case measure => have := HK1.out; have := HJ2.out; omega
          case rel => exact ⟨(x3_1), (x4_1), (!x5_1), (wrap64 (x6_1 + 1)), zb12, zb12, zb12, H', ⟨by have := HK1.out; have := HJ2.out; omega⟩, ⟨by (with_reducible repeat (first | apply Kd.R_alloc | apply Kd.R_drewN | apply Kd.R_drew)); exact HO_3.out⟩, ⟨by repeat (first | (with_reducible first | exact HB.out | apply below_alloc | apply pw_below_drewN | apply below_drew1) | exact HB.out)⟩⟩
         ·rw [if_neg c23] at H
          have c23b0 : ((bt a0 x6_1) == 34) = false := beq_eq_false_iff_ne.mpr c23
          have c23b1 : ((bt a0 x6_1) != 34) = true := bne_iff_ne.mpr c23
          by_cases c25 : (bt a0 x6_1) = 92
          ·rw [if_pos c25] at H
           have c25b0 : ((bt a0 x6_1) == 92) = true := beq_iff_eq.mpr c25
           have c25b1 : ((bt a0 x6_1) != 92) = false := bne_eq_false_iff_eq.mpr c25
           clear c25
           by_cases c26 : x5_1 = true
           ·subst c26
            replace H : (if (wrap64 (x6_1 + 1)) < (a0.size : Int) then (broadsheetref14_Split.l0 kj2 a0 x3_1 x4_1 true (wrap64 ((wrap64 (x6_1 + 1)) + 1))) else (broadsheetref14_Split.l0 kj2 a0 x3_1 x4_1 true (wrap64 (x6_1 + 1)))) = some r := by rw [if_pos rfl] at H; exact H
            by_cases c27 : (wrap64 (x6_1 + 1)) < (a0.size : Int)
            ·rw [if_pos c27] at H
             have c27b0 : decide ((wrap64 (x6_1 + 1)) < (a0.size : Int)) = true := decide_eq_true c27
             clear c27
             have H' := Aside0.mk H
             clear H
             have p22 : 0 ≤ (x6_1 : Int) := of_decide_eq_true zb6
             have q22 : x6_1 < (a0.size : Int) := of_decide_eq_true zb6
             have hx22 := bt_at a0 x6_1
             replace p22 := eq_true p22
             replace q22 := eq_true q22
             have p24 : 0 ≤ (x6_1 : Int) := of_decide_eq_true zb6
             have q24 : x6_1 < (a0.size : Int) := of_decide_eq_true zb6
             have hx24 := bt_at a0 x6_1
             replace p24 := eq_true p24
             replace q24 := eq_true q24
             go_wp2
             go_roundg kj2
             case measure => have := HK1.out; have := HJ2.out; omega
             case rel => exact ⟨(x3_1), (x4_1), (true), (wrap64 ((wrap64 (x6_1 + 1)) + 1)), zb12, zb12, zb12, H', ⟨by have := HK1.out; have := HJ2.out; omega⟩, ⟨by (with_reducible repeat (first | apply Kd.R_alloc | apply Kd.R_drewN | apply Kd.R_drew)); exact HO_3.out⟩, ⟨by repeat (first | (with_reducible first | exact HB.out | apply below_alloc | apply pw_below_drewN | apply below_drew1) | exact HB.out)⟩⟩
            ·rw [if_neg c27] at H
             have c27b0 : decide ((wrap64 (x6_1 + 1)) < (a0.size : Int)) = false := decide_eq_false c27
             clear c27
             have H' := Aside0.mk H
             clear H
             have p22 : 0 ≤ (x6_1 : Int) := of_decide_eq_true zb6
             have q22 : x6_1 < (a0.size : Int) := of_decide_eq_true zb6
             have hx22 := bt_at a0 x6_1
             replace p22 := eq_true p22
             replace q22 := eq_true q22
             have p24 : 0 ≤ (x6_1 : Int) := of_decide_eq_true zb6
             have q24 : x6_1 < (a0.size : Int) := of_decide_eq_true zb6
             have hx24 := bt_at a0 x6_1
             replace p24 := eq_true p24
             replace q24 := eq_true q24
             go_wp2
             go_roundg kj2
             case measure => have := HK1.out; have := HJ2.out; omega
             case rel => exact ⟨(x3_1), (x4_1), (true), (wrap64 (x6_1 + 1)), zb12, zb12, zb12, H', ⟨by have := HK1.out; have := HJ2.out; omega⟩, ⟨by (with_reducible repeat (first | apply Kd.R_alloc | apply Kd.R_drewN | apply Kd.R_drew)); exact HO_3.out⟩, ⟨by repeat (first | (with_reducible first | exact HB.out | apply below_alloc | apply pw_below_drewN | apply below_drew1) | exact HB.out)⟩⟩
           ·replace c26 := Bool.eq_false_iff.mpr c26
            subst c26
            replace H : (broadsheetref14_Split.l0 kj2 a0 x3_1 x4_1 false (wrap64 (x6_1 + 1))) = some r := by rw [if_neg (show ¬ (false = true) by decide)] at H; exact H
            have H' := Aside0.mk H
            clear H
            have p22 : 0 ≤ (x6_1 : Int) := of_decide_eq_true zb6
            have q22 : x6_1 < (a0.size : Int) := of_decide_eq_true zb6
            have hx22 := bt_at a0 x6_1
            replace p22 := eq_true p22
            replace q22 := eq_true q22
            have p24 : 0 ≤ (x6_1 : Int) := of_decide_eq_true zb6
            have q24 : x6_1 < (a0.size : Int) := of_decide_eq_true zb6
            have hx24 := bt_at a0 x6_1
            replace p24 := eq_true p24
            replace q24 := eq_true q24
            go_wp2
            go_roundg kj2
            case measure => have := HK1.out; have := HJ2.out; omega
            case rel => exact ⟨(x3_1), (x4_1), (false), (wrap64 (x6_1 + 1)), zb12, zb12, zb12, H', ⟨by have := HK1.out; have := HJ2.out; omega⟩, ⟨by (with_reducible repeat (first | apply Kd.R_alloc | apply Kd.R_drewN | apply Kd.R_drew)); exact HO_3.out⟩, ⟨by repeat (first | (with_reducible first | exact HB.out | apply below_alloc | apply pw_below_drewN | apply below_drew1) | exact HB.out)⟩⟩
          ·rw [if_neg c25] at H
           have c25b0 : ((bt a0 x6_1) == 92) = false := beq_eq_false_iff_ne.mpr c25
           have c25b1 : ((bt a0 x6_1) != 92) = true := bne_iff_ne.mpr c25
           have H' := Aside0.mk H
           clear H
           have p22 : 0 ≤ (x6_1 : Int) := of_decide_eq_true zb6
           have q22 : x6_1 < (a0.size : Int) := of_decide_eq_true zb6
           have hx22 := bt_at a0 x6_1
           replace p22 := eq_true p22
           replace q22 := eq_true q22
           have p24 : 0 ≤ (x6_1 : Int) := of_decide_eq_true zb6
           have q24 : x6_1 < (a0.size : Int) := of_decide_eq_true zb6
           have hx24 := bt_at a0 x6_1
           replace p24 := eq_true p24
           replace q24 := eq_true q24
           go_wp2
           go_roundg kj2
           case measure => have := HK1.out; have := HJ2.out; omega
           case rel => exact ⟨(x3_1), (x4_1), (x5_1), (wrap64 (x6_1 + 1)), zb12, zb12, zb12, H', ⟨by have := HK1.out; have := HJ2.out; omega⟩, ⟨by (with_reducible repeat (first | apply Kd.R_alloc | apply Kd.R_drewN | apply Kd.R_drew)); exact HO_3.out⟩, ⟨by repeat (first | (with_reducible first | exact HB.out | apply below_alloc | apply pw_below_drewN | apply below_drew1) | exact HB.out)⟩⟩
        ·rw [if_neg c21] at H
         exact absurd H (by simp)
       ·rw [if_neg c20] at H
        exact absurd H (by simp)
   ·rw [if_neg c2] at H
    have c2b0 : decide (x6_1 ≤ (a0.size : Int)) = false := decide_eq_false c2
    clear c2
    obtain rfl := Option.some.inj H
    go_wp2
    go_ret
    exact ⟨_, by first | rfl | (simp [errW_none, errW_some, bne_nil_] <;> rfl) | (simp [*, errW_none, errW_some] <;> rfl), by (with_reducible repeat (first | apply Kd.R_alloc | apply Kd.R_drewN | apply Kd.R_drew)); exact HO_3.out, zb0⟩
end Go.Proofs.YtghfbhobpodoeaaDoor.P
/- Px18 -/
namespace Go.Proofs.YtghfbhobpodoeaaDoor.P
open Go.Proofs.YtghfbhobpodoeaaDoor.B
open Go.RowKit Go.Proofs.YtghfbhobpodoeaaDoorW.PrintWords Go.Proofs.YtghfbhobpodoeaaDoorW.PrintLast Go.Proofs.YtghfbhobpodoeaaDoorW.PrintMore
attribute [local go_sem] run_store_float str_leq str_gtr str_geq max2_int min2_int max_two min_two max_three min_three max_four min_four
set_option linter.unusedVariables false
set_option linter.unusedSimpArgs false
open Go.Proofs.YtghfbhobpodoeaaDoor.O
def broadsheetlaw14_QualitySplits.f (k : Nat) (a0 : ByteArray) : Option (Bool) := (broadsheetlaw14_awake.f k).bind fun t187 => (if t187 = true then (if (a0.size : Int) > 2000 then (some true) else ((quality_Split.f a0).bind fun t188 => ((broadsheetref14_Split.f k a0).bind fun t191 => ((broadsheetlaw01_SameTexts.f k t188 t191).bind fun t194 => (some t194))))) else (some false))
set_option maxHeartbeats 8000000 in
set_option maxRecDepth 100000 in
theorem broadsheetlaw14_QualitySplits.calls (k : Nat) (a0 : ByteArray) (r : Bool) (w : World) (hG : Glob w) (h : broadsheetlaw14_QualitySplits.f k a0 = some r) :
  Calls Tryd.prog 3 #[.string a0] w fun e w' => e = .returned (.bool r) ∧ Below w.heap.size w w' := by
 have HB := Aside0.mk (Below.refl w.heap.size w)
 have hGA := Aside0.mk hG
 clear hG
 have H : ((broadsheetlaw14_awake.f k).bind fun t187 => (if t187 = true then (if (a0.size : Int) > 2000 then (some true) else ((quality_Split.f a0).bind fun t188 => ((broadsheetref14_Split.f k a0).bind fun t191 => ((broadsheetlaw01_SameTexts.f k t188 t191).bind fun t194 => (some t194))))) else (some false))) = some r := h
 clear h
 replace H := Option.bind_eq_some_iff.mp H
 obtain ⟨t187, A20, H⟩ := H
 replace H : (if t187 = true then (if (a0.size : Int) > 2000 then (some true) else ((quality_Split.f a0).bind fun t188 => ((broadsheetref14_Split.f k a0).bind fun t191 => ((broadsheetlaw01_SameTexts.f k t188 t191).bind fun t194 => (some t194))))) else (some false)) = some r := H
 have A2 := Aside0.mk A20
 clear A20
 by_cases c3 : t187 = true
 ·subst c3
  replace H : (if (a0.size : Int) > 2000 then (some true) else ((quality_Split.f a0).bind fun t188 => ((broadsheetref14_Split.f k a0).bind fun t191 => ((broadsheetlaw01_SameTexts.f k t188 t191).bind fun t194 => (some t194))))) = some r := by rw [if_pos rfl] at H; exact H
  by_cases c4 : (a0.size : Int) > 2000
  ·rw [if_pos c4] at H
   have c4b0 : decide (2000 < (a0.size : Int)) = true := decide_eq_true c4
   have c4b1 : decide (2000 < a0.size) = true := decide_eq_true zb38
   clear c4
   obtain rfl := Option.some.inj H
   go_enter Tryd.func3, Tryd.ntmps3
   go_wp2_with (first | ((with_reducible refine gate_callee (f := 8) rfl ?_); refine goesL_ (some 3) rfl rfl Tryd.func8 zb14 rfl #[] rfl zb1 ?_; (with_reducible refine (broadsheetlaw14_awake.calls k  true _ ?side1 A2.out).mono ?_); (case side1 => exact Glob.below hGA.out zb0); rintro e w5 ⟨rfl, hb⟩; refine ⟨_, rfl, ?_⟩; have n0_ := Aside0.mk (below_step zb0 hb); clear HB; have HB := n0_; clear n0_; (try clear hb); (try clear hb2); (try clear hk); (try clear hi)))
   go_ret
   exact ⟨zb9, zb0⟩
  ·rw [if_neg c4] at H
   have c4b0 : decide (2000 < (a0.size : Int)) = false := decide_eq_false c4
   have c4b1 : decide (2000 < a0.size) = false := decide_eq_false zb38
   clear c4
   replace H := Option.bind_eq_some_iff.mp H
   obtain ⟨t188, A60, H⟩ := H
   replace H : ((broadsheetref14_Split.f k a0).bind fun t191 => ((broadsheetlaw01_SameTexts.f k t188 t191).bind fun t194 => (some t194))) = some r := H
   have A6 := Aside0.mk A60
   clear A60
   replace H := Option.bind_eq_some_iff.mp H
   obtain ⟨t191, A70, H⟩ := H
   replace H : ((broadsheetlaw01_SameTexts.f k t188 t191).bind fun t194 => (some t194)) = some r := H
   have A7 := Aside0.mk A70
   clear A70
   replace H := Option.bind_eq_some_iff.mp H
   obtain ⟨t194, A80, H⟩ := H
   replace H : (some t194) = some r := H
   have A8 := Aside0.mk A80
   clear A80
   obtain rfl := Option.some.inj H
   go_enter Tryd.func3, Tryd.ntmps3
   go_wp2_with (first | ((with_reducible refine gate_callee (f := 8) rfl ?_); refine goesL_ (some 3) rfl rfl Tryd.func8 zb14 rfl #[] rfl zb1 ?_; (with_reducible refine (broadsheetlaw14_awake.calls k  true _ ?side1 A2.out).mono ?_); (case side1 => exact Glob.below hGA.out zb0); rintro e w9 ⟨rfl, hb⟩; refine ⟨_, rfl, ?_⟩; have n0_ := Aside0.mk (below_step zb0 hb); clear HB; have HB := n0_; clear n0_; (try clear hb); (try clear hb2); (try clear hk); (try clear hi)) | (go_at_call 10; (with_reducible refine (quality_Split.calls a0 t188 _ A6.out).mono ?_); rintro e w10 ⟨v189, rfl, ho0, hb⟩; have n0_ := Aside0.mk (Kd.R_lower ho0 (below_size zb0)); have n1_ := Aside0.mk (below_step zb0 hb); clear HB; have HO190 := n0_; have HB := n1_; clear n0_ n1_; (try clear hb); (try clear hb2); (try clear hk); (try clear hi); (try clear ho0)) | (go_at_call 11; (with_reducible refine (broadsheetref14_Split.calls k a0 t191 _ A7.out).mono ?_); rintro e w11 ⟨v192, rfl, ho0, hb⟩; have n0_ := Aside0.mk (Kd.R_elder' (by (with_reducible repeat (first | apply Kd.R_alloc | apply Kd.R_drewN | apply Kd.R_drew)); exact HO190.out) (Kd.R_base ho0) hb); have n1_ := Aside0.mk (Kd.R_lower (Kd.R_new' ho0 (Kd.R_lt (by (with_reducible repeat (first | apply Kd.R_alloc | apply Kd.R_drewN | apply Kd.R_drew)); exact HO190.out))) (below_size zb0)); have n2_ := Aside0.mk (below_step zb0 hb); clear HO190; clear HB; have HO190 := n0_; have HO193 := n1_; have HB := n2_; clear n0_ n1_ n2_; (try clear hb); (try clear hb2); (try clear hk); (try clear hi); (try clear ho0); obtain ⟨Ao12, co12, eo12⟩ := Kd.R_slice HO190.out; subst eo12; obtain ⟨Ao13, co13, eo13⟩ := Kd.R_slice HO193.out; subst eo13) | (go_at_call 9; (with_reducible refine (broadsheetlaw01_SameTexts.calls k _ _ t188 _ _ t191 t194 _ ?side1 ?side2 ?side3 ?side4 A8.out).mono ?_); (case side1 => repeat (first | exact (Kd.R_reads' HO190.out).2.2 | (with_reducible refine Kd.C_alloc ?_ _) | (with_reducible refine Kd.C_drewN ?_ _) | (with_reducible refine Kd.C_drew ?_))); (case side2 => exact (Kd.R_reads' HO190.out).2.1); (case side3 => repeat (first | exact (Kd.R_reads' HO193.out).2.2 | (with_reducible refine Kd.C_alloc ?_ _) | (with_reducible refine Kd.C_drewN ?_ _) | (with_reducible refine Kd.C_drew ?_))); (case side4 => exact (Kd.R_reads' HO193.out).2.1); rintro e w' ⟨rfl, ⟨nd, rfl⟩⟩))
   go_ret
   exact ⟨zb9, zb0⟩
 ·replace c3 := Bool.eq_false_iff.mpr c3
  subst c3
  replace H : (some false) = some r := by rw [if_neg (show ¬ (false = true) by decide)] at H; exact H
  obtain rfl := Option.some.inj H
  go_enter Tryd.func3, Tryd.ntmps3
  go_wp2_with (first | ((with_reducible refine gate_callee (f := 8) rfl ?_); refine goesL_ (some 3) rfl rfl Tryd.func8 zb14 rfl #[] rfl zb1 ?_; (with_reducible refine (broadsheetlaw14_awake.calls k  false _ ?side1 A2.out).mono ?_); (case side1 => exact Glob.below hGA.out zb0); rintro e w14 ⟨rfl, hb⟩; refine ⟨_, rfl, ?_⟩; have n0_ := Aside0.mk (below_step zb0 hb); clear HB; have HB := n0_; clear n0_; (try clear hb); (try clear hb2); (try clear hk); (try clear hi)))
  go_ret
  exact ⟨zb9, zb0⟩
end Go.Proofs.YtghfbhobpodoeaaDoor.P
/- SpSplits -/
namespace Go.Proofs.YtghfbhobpodoeaaDoor.Sp
open Go Go.RowKit Go.Proofs.YtghfbhobpodoeaaDoorW.PrintWords Go.Proofs.YtghfbhobpodoeaaDoorW.PrintLast Go.Proofs.YtghfbhobpodoeaaDoor.O Go.Proofs.YtghfbhobpodoeaaDoor.P
set_option linter.unusedVariables false
set_option linter.unusedSimpArgs false
theorem spl_cons_ (c : UInt8) (r : L) (q : Bool) (cur : L) (out : List L) : splL (c :: r) q cur out = if c = 34 then splL r (!q) (cur ++ [c]) out
    else if c = 92 ∧ q = true then (match r with
      | [] => putQ (cur ++ [c]) out
      | d :: r' => splL r' q (cur ++ [c, d]) out)
    else if c = 44 ∧ q = false then splL r q [] (putQ cur out)
    else splL r q (cur ++ [c]) out := by
  conv => lhs; unfold splL
  cases r <;> rfl
theorem trim_skip (s : L) : trim s = [] ↔ skip s = [] := by
  unfold trim
  constructor
  · intro h
    by_cases hs : skip s = []
    · exact hs
    · obtain ⟨c, r, hc, hb⟩ := skip_head hs
      have h1 : skip (skip s).reverse = [] := by simpa using h
      have := skip_nil h1 c (by rw [List.mem_reverse, hc]; simp)
      rw [hb] at this
      cases this
  · intro h
    rw [h]
    rfl
theorem rspl_l0 (s : L) (hs : s.length ≤ 100000) : ∀ (d k i a : Nat) (q : Bool) (out : List L), i + d = s.length → 3 * d + 200000 ≤ k → a ≤ i → out.length ≤ i →
    broadsheetref14_Split.l0 k (mk s) (out.map mk) (a : Int) q (i : Int) = some ((splL (s.drop i) q ((s.drop a).take (i - a)) out).map mk) := by
  intro d
  induction d using Nat.strongRecOn with
  | _ d ih =>
    intro k i a q out hi hk ha ho
    obtain ⟨k, rfl⟩ : ∃ m, k = m + 1 + 1 := ⟨k - 2, by omega⟩
    have hput : ∀ (k : Nat), s.length + 1 ≤ k → (out.map mk).length ≤ 200000 → i ≤ s.length → broadsheetref14_Split.j1 (k + 1) (mk s) (out.map mk) (a : Int) q (i : Int) true = broadsheetref14_Split.l0 k (mk s) ((putQ ((s.drop a).take (i - a)) out).map mk) ((i + 1 : Nat) : Int) q ((i + 1 : Nat) : Int) := by
      intro k hk2 hol hil
      rw [broadsheetref14_Split.j1, if_pos rfl, if_pos (by omega), if_pos (by omega), if_pos (by rw [mk_size]; omega), Int.toNat_natCast, Int.toNat_natCast, ext_mk,
        rskipF _ k (by rw [List.length_take, List.length_drop]; omega), Option.bind_some, tl_mk, w1_ i (by omega)]
      unfold putQ
      by_cases h : trim ((s.drop a).take (i - a)) = []
      · rw [if_pos ((trim_skip _).1 h), if_pos h]
      · rw [if_neg (fun x => h ((trim_skip _).2 x)), if_neg h, if_pos (by rw [List.length_map] at hol ⊢; omega)]
        simp
    by_cases hlt : i < s.length
    · obtain ⟨b, hd, hb⟩ := mk_bt s i hlt
      have c34 : ((b.toNat : Int) = 34) ↔ b = 34 := u8c b 34 (by decide)
      have c92 : ((b.toNat : Int) = 92) ↔ b = 92 := u8c b 92 (by decide)
      have c44 : ((b.toNat : Int) = 44) ↔ b = 44 := u8c b 44 (by decide)
      have hsn := cur_snoc s a i b ha hd
      rw [broadsheetref14_Split.l0, if_pos (by rw [mk_size]; omega), if_neg (by rw [mk_size]; omega), if_pos (by omega), if_pos (by rw [mk_size]; omega), hb, hd, spl_cons_]
      have hgo : b ≠ 44 ∨ q = true → (if (b.toNat : Int) = 44 then broadsheetref14_Split.j1 (k + 1) (mk s) (out.map mk) (a : Int) q (i : Int) (!q) else broadsheetref14_Split.j1 (k + 1) (mk s) (out.map mk) (a : Int) q (i : Int) false) = broadsheetref14_Split.j1 (k + 1) (mk s) (out.map mk) (a : Int) q (i : Int) false := by
        intro h
        by_cases h44 : (b.toNat : Int) = 44
        · rw [if_pos h44]
          rcases h with h | h
          · exact absurd (c44.1 h44) h
          · rw [h]; rfl
        · rw [if_neg h44]
      by_cases h34 : b = 34
      · rw [hgo (.inl (by rw [h34]; decide)), if_pos h34, broadsheetref14_Split.j1, if_neg (by decide), if_pos (by omega), if_pos (by rw [mk_size]; omega), hb, if_pos (c34.2 h34), w1_ i (by omega), ih (d - 1) (by omega) k (i + 1) a (!q) out (by omega) (by omega) (by omega) (by omega), hsn]
      · rw [if_neg h34]
        by_cases h92 : b = 92 ∧ q = true
        · rw [hgo (.inr h92.2), if_pos h92, broadsheetref14_Split.j1, if_neg (by decide), if_pos (by omega), if_pos (by rw [mk_size]; omega), hb, if_neg (fun x => h34 (c34.1 x)), if_pos (c92.2 h92.1), if_pos h92.2, w1_ i (by omega)]
          by_cases hl : i + 1 < s.length
          · obtain ⟨e, hd2, _⟩ := mk_bt s (i + 1) hl
            have hsn2 := cur_snoc s a (i + 1) e (by omega) hd2
            rw [if_pos (by rw [mk_size]; omega), w1_ (i + 1) (by omega), hd2]
            simp only
            rw [ih (d - 2) (by omega) k (i + 1 + 1) a q out (by omega) (by omega) (by omega) (by omega), hsn2, hsn]
            simp
          · have hn : s.drop (i + 1) = [] := List.drop_eq_nil_of_le (by omega)
            rw [if_neg (by rw [mk_size]; omega), hn]
            simp only
            rw [ih (d - 1) (by omega) k (i + 1) a q out (by omega) (by omega) (by omega) (by omega), hn, hsn]
            rfl
        · rw [if_neg h92]
          by_cases h44 : b = 44 ∧ q = false
          · rw [if_pos (c44.2 h44.1), h44.2]
            show broadsheetref14_Split.j1 (k + 1) (mk s) (out.map mk) (a : Int) false (i : Int) true = _
            have hp := hput k (by omega) (by rw [List.length_map]; omega) (by omega)
            rw [h44.2] at hp
            have hl2 : (putQ ((s.drop a).take (i - a)) out).length ≤ out.length + 1 := putQ_len _ _
            rw [hp, ih (d - 1) (by omega) k (i + 1) (i + 1) false _ (by omega) (by omega) (by omega) (by omega), if_pos ⟨h44.1, rfl⟩]
            simp
          · have h44' : b ≠ 44 ∨ q = true := by
              by_cases x : b = 44
              · right
                cases hq : q
                · exact absurd ⟨x, hq⟩ h44
                · rfl
              · exact .inl x
            rw [hgo h44', if_neg h44, broadsheetref14_Split.j1, if_neg (by decide), if_pos (by omega), if_pos (by rw [mk_size]; omega), hb, if_neg (fun x => h34 (c34.1 x)), w1_ i (by omega)]
            have hrest := ih (d - 1) (by omega) k (i + 1) a q out (by omega) (by omega) (by omega) (by omega)
            rw [hsn] at hrest
            by_cases h92b : (b.toNat : Int) = 92
            · rw [if_pos h92b, if_neg (fun x => h92 ⟨c92.1 h92b, x⟩), hrest]
            · rw [if_neg h92b, hrest]
    · obtain rfl : i = s.length := by omega
      rw [broadsheetref14_Split.l0, if_pos (by rw [mk_size]; omega), if_pos (by rw [mk_size]), hput k (by omega) (by rw [List.length_map]; omega) (Nat.le_refl _)]
      obtain ⟨k, rfl⟩ : ∃ m, k = m + 1 := ⟨k - 1, by omega⟩
      rw [broadsheetref14_Split.l0, if_neg (by rw [mk_size]; omega), List.drop_of_length_le (Nat.le_refl _)]
      rfl
theorem rsplitF (s : L) (k : Nat) (hs : s.length ≤ 100000) (hk : 3 * s.length + 200000 ≤ k) : broadsheetref14_Split.f k (mk s) = some ((split s).map mk) := by
  unfold broadsheetref14_Split.f
  have := rspl_l0 s hs s.length k 0 0 false [] (by omega) (by omega) (Nat.le_refl _) (by simp)
  simpa [split] using this
theorem texts_l0 (l : List L) (hl : l.length ≤ 1000000000000) : ∀ (d k i : Nat), i + d = l.length → d < k → broadsheetlaw01_SameTexts.l0 k (l.map mk) (l.map mk) (i : Int) = some true := by
  intro d
  induction d with
  | zero =>
    intro k i hi hk
    obtain ⟨k, rfl⟩ : ∃ m, k = m + 1 := ⟨k - 1, by omega⟩
    rw [broadsheetlaw01_SameTexts.l0, if_neg (by rw [List.length_map]; omega)]
  | succ d ih =>
    intro k i hi hk
    obtain ⟨k, rfl⟩ : ∃ m, k = m + 1 := ⟨k - 1, by omega⟩
    rw [broadsheetlaw01_SameTexts.l0, if_pos (by rw [List.length_map]; omega), if_pos (by omega), if_pos (by rw [List.length_map]; omega), if_pos rfl, w1_ i (by omega), ih k (i + 1) (by omega) (by omega)]
theorem textsF (l : List L) (k : Nat) (hl : l.length ≤ 1000000000000) (hk : l.length < k) : broadsheetlaw01_SameTexts.f k (l.map mk) (l.map mk) = some true := by
  unfold broadsheetlaw01_SameTexts.f
  rw [if_pos rfl]
  exact texts_l0 l hl l.length k 0 (by omega) hk
theorem quality_splits_all (s : ByteArray) : ∃ k, broadsheetlaw14_QualitySplits.f k s = some true := by
  rw [← mk_self s]
  generalize s.data.toList = u
  refine ⟨20000000, ?_⟩
  unfold broadsheetlaw14_QualitySplits.f
  rw [awake14 _ (by omega)]
  simp only [Option.bind_some, if_true]
  rw [mk_size]
  by_cases h : (u.length : Int) > 2000
  · rw [if_pos h]
  · rw [if_neg h, splitF u (by omega), Option.bind_some, rsplitF u _ (by omega) (by omega), Option.bind_some, textsF _ _ (by have := (split_sm u).2; omega) (by have := (split_sm u).2; omega)]
    rfl
end Go.Proofs.YtghfbhobpodoeaaDoor.Sp
