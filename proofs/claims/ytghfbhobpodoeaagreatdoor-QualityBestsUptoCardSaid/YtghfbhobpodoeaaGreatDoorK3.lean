/- Texts of this seat, joined: lemmas and walks that its statements' proofs use. -/
import Derived.Test.YtghfbhobpodoeaaGreatDoorK1
import Derived.Test.YtghfbhobpodoeaaGreatDoorK2
/- Px23 -/
namespace Go.Proofs.YtghfbhobpodoeaaGreatDoor.P
open Go.Proofs.YtghfbhobpodoeaaGreatDoor.B
open Go.RowKit Go.Proofs.YtghfbhobpodoeaaGreatDoorW.PrintWords Go.Proofs.YtghfbhobpodoeaaGreatDoorW.PrintLast Go.Proofs.YtghfbhobpodoeaaGreatDoorW.PrintMore
attribute [local go_sem] run_store_float str_leq str_gtr str_geq max2_int min2_int max_two min_two max_three min_three max_four min_four
set_option linter.unusedVariables false
set_option linter.unusedSimpArgs false
def broadsheetref13_Quoted.l0 : Nat → ByteArray → List Int → Int → Option (ByteArray × ByteArray × Bool)
  | 0, _, _, _ => none
  | k + 1, x0, x5, x6 => if x6 < (x0.size : Int) then (if 0 ≤ x6 then (if (bt x0 x6) = 34 then (if 0 ≤ (wrap64 (x6 + 1)) then (if (wrap64 (x6 + 1)) ≤ (x0.size : Int) then (some (strOfNums x5, x0.extract ((wrap64 (x6 + 1)) : Int).toNat x0.size, true)) else (none)) else (none)) else (if (bt x0 x6) = 92 then (if (wrap64 (x6 + 1)) = (x0.size : Int) then (some ((⟨#[]⟩ : ByteArray), (⟨#[]⟩ : ByteArray), false)) else (if 0 ≤ (wrap64 (x6 + 1)) then (if (wrap64 (x6 + 1)) < (x0.size : Int) then (if (bt x0 (wrap64 (x6 + 1))) < 32 then (if (bt x0 (wrap64 (x6 + 1))) = 9 then (if (bt x0 (wrap64 (x6 + 1))) = 127 then (some ((⟨#[]⟩ : ByteArray), (⟨#[]⟩ : ByteArray), false)) else (if x5.length < 140737488355328 then (broadsheetref13_Quoted.l0 k x0 (x5 ++ [bt x0 (wrap64 (x6 + 1))]) (wrap64 ((wrap64 (x6 + 1)) + 1))) else (none))) else (some ((⟨#[]⟩ : ByteArray), (⟨#[]⟩ : ByteArray), false))) else (if (bt x0 (wrap64 (x6 + 1))) = 127 then (some ((⟨#[]⟩ : ByteArray), (⟨#[]⟩ : ByteArray), false)) else (if x5.length < 140737488355328 then (broadsheetref13_Quoted.l0 k x0 (x5 ++ [bt x0 (wrap64 (x6 + 1))]) (wrap64 ((wrap64 (x6 + 1)) + 1))) else (none)))) else (none)) else (none))) else (if (bt x0 x6) < 32 then (if (bt x0 x6) = 9 then (if (bt x0 x6) = 127 then (some ((⟨#[]⟩ : ByteArray), (⟨#[]⟩ : ByteArray), false)) else (if x5.length < 140737488355328 then (broadsheetref13_Quoted.l0 k x0 (x5 ++ [bt x0 x6]) (wrap64 (x6 + 1))) else (none))) else (some ((⟨#[]⟩ : ByteArray), (⟨#[]⟩ : ByteArray), false))) else (if (bt x0 x6) = 127 then (some ((⟨#[]⟩ : ByteArray), (⟨#[]⟩ : ByteArray), false)) else (if x5.length < 140737488355328 then (broadsheetref13_Quoted.l0 k x0 (x5 ++ [bt x0 x6]) (wrap64 (x6 + 1))) else (none)))))) else (none)) else (some ((⟨#[]⟩ : ByteArray), (⟨#[]⟩ : ByteArray), false))
def broadsheetref13_Quoted.f (k : Nat) (a0 : ByteArray) : Option (ByteArray × ByteArray × Bool) := broadsheetref13_Quoted.l0 k a0 ([] : List Int) 0
set_option maxHeartbeats 8000000 in
set_option maxRecDepth 100000 in
theorem broadsheetref13_Quoted.calls (k : Nat) (a0 : ByteArray) (r1 : ByteArray) (r2 : ByteArray) (r3 : Bool) (w : World) (h : broadsheetref13_Quoted.f k a0 = some (r1, r2, r3)) :
  Calls Tryz.prog 87 #[.string a0] w fun e w' => e = .returned (.tuple #[.string r1, .string r2, .bool r3]) ∧ Below w.heap.size w w' := by
 have HB := Aside0.mk (Below.refl w.heap.size w)
 have H : (broadsheetref13_Quoted.l0 k a0 ([] : List Int) 0) = some (r1, r2, r3) := h
 clear h
 have H' := Aside0.mk H
 clear H
 go_enter Tryz.func87, Tryz.ntmps87
 go_wp2
 repeat (go_quiet (fail); try go_wp2)
 first | go_loopg [5, 6] k (fun kq v5 v6 w' => ∃ (x5_1 : List Int) (x6_1 : Int), v6 = .int .i64 x6_1 ∧ Aside0 (broadsheetref13_Quoted.l0 kq a0 x5_1 x6_1 = some (r1, r2, r3)) ∧ Aside0 (kq ≤ k) ∧ Aside0 (Kd.R (Kd.int .u8) 5 w' w.heap.size (fun _ => True) v5 x5_1) ∧ Aside0 (Below w.heap.size w w')) | (go_simp; go_loopg [5, 6] k (fun kq v5 v6 w' => ∃ (x5_1 : List Int) (x6_1 : Int), v6 = .int .i64 x6_1 ∧ Aside0 (broadsheetref13_Quoted.l0 kq a0 x5_1 x6_1 = some (r1, r2, r3)) ∧ Aside0 (kq ≤ k) ∧ Aside0 (Kd.R (Kd.int .u8) 5 w' w.heap.size (fun _ => True) v5 x5_1) ∧ Aside0 (Below w.heap.size w w')))
 case atStart => exact ⟨(([] : List Int)), (0), zb4, H', ⟨Nat.le_refl _⟩, ⟨by first | exact Kd.R_nil _ _ _ _ _ | exact Kd.N_nil _ _ _ _ _ | exact Kd.V_nil _ _ _ _ _ | exact Kd.Q_nil _ _ _ _ _ | exact Kd.S_nil _ _ _ _ _⟩, ⟨by repeat (first | (with_reducible first | exact HB.out | apply below_alloc | apply pw_below_drewN | apply below_drew1) | exact HB.out)⟩⟩
 case round =>
  clear H'
  obtain ⟨x5_1, x6_1, rfl, HA, HK1, HO_5, HB⟩ := hrel
  cases gk with
  | zero => exact absurd HA.out (by simp [broadsheetref13_Quoted.l0])
  | succ k1 =>
   have H := HA.out
   clear HA
   simp only [broadsheetref13_Quoted.l0] at H
   by_cases c2 : x6_1 < (a0.size : Int)
   ·rw [if_pos c2] at H
    have c2b0 : decide (x6_1 < (a0.size : Int)) = true := decide_eq_true c2
    clear c2
    by_cases c3 : 0 ≤ x6_1
    ·rw [if_pos c3] at H
     have c3b0 : decide (0 ≤ x6_1) = true := decide_eq_true c3
     clear c3
     by_cases c5 : (bt a0 x6_1) = 34
     ·rw [if_pos c5] at H
      have c5b0 : ((bt a0 x6_1) == 34) = true := beq_iff_eq.mpr c5
      have c5b1 : ((bt a0 x6_1) != 34) = false := bne_eq_false_iff_eq.mpr c5
      clear c5
      obtain ⟨ji6, hji6⟩ : ∃ j_ : Int, (wrap64 (x6_1 + 1)) = j_ := ⟨_, rfl⟩
      replace H : (if 0 ≤ (ji6) then (if (ji6) ≤ (a0.size : Int) then (some (strOfNums x5_1, a0.extract ((ji6) : Int).toNat a0.size, true)) else (none)) else (none)) = some (r1, r2, r3) := by first | (rw [hji6] at H; exact H) | (simp only [hji6] at H ⊢; exact H)
      have hji6w : (IntKind.i64.wrap (x6_1 + 1)) = ji6 := (i64_w _).trans hji6
      by_cases c7 : 0 ≤ (ji6)
      ·rw [if_pos c7] at H
       have c7b0 := eq_true c7
       have c7b1 : decide (0 ≤ (ji6)) = true := decide_eq_true c7
       clear c7
       by_cases c8 : (ji6) ≤ (a0.size : Int)
       ·rw [if_pos c8] at H
        have c8b0 := eq_true c8
        have c8b1 : decide ((ji6) ≤ (a0.size : Int)) = true := decide_eq_true c8
        clear c8
        simp only [Option.some.injEq, Prod.mk.injEq] at H
        obtain ⟨rfl, rfl, rfl⟩ := H
        have p4 : 0 ≤ (x6_1 : Int) := of_decide_eq_true zb3
        have q4 : x6_1 < (a0.size : Int) := of_decide_eq_true zb3
        have hx4 := bt_at a0 x6_1
        replace p4 := eq_true p4
        replace q4 := eq_true q4
        have hcv9 := own_string (P := Tryz.prog) Tryz.underlying31 Tryz.underlying5 Tryz.underlying9 (Kd.own_of_R HO_5.out)
        have hcvq9 := fun n_ => own_string (P := Tryz.prog) Tryz.underlying31 Tryz.underlying5 Tryz.underlying9 (Kd.own_of_R (Kd.R_drewN HO_5.out n_))
        go_wp2
        repeat (go_quiet (fail); try go_wp2)
        go_ret3
        exact ⟨by first | rfl | (simp [errW_none, errW_some, bne_nil_] <;> rfl) | (simp only [← hji6]; first | rfl | (simp [errW_none, errW_some, bne_nil_] <;> rfl)) | (simp [*, errW_none, errW_some] <;> rfl), zb0⟩
       ·rw [if_neg c8] at H
        exact absurd H zb45
      ·rw [if_neg c7] at H
       exact absurd H zb45
     ·rw [if_neg c5] at H
      have c5b0 : ((bt a0 x6_1) == 34) = false := beq_eq_false_iff_ne.mpr c5
      have c5b1 : ((bt a0 x6_1) != 34) = true := bne_iff_ne.mpr c5
      by_cases c11 : (bt a0 x6_1) = 92
      ·rw [if_pos c11] at H
       have c11b0 : ((bt a0 x6_1) == 92) = true := beq_iff_eq.mpr c11
       have c11b1 : ((bt a0 x6_1) != 92) = false := bne_eq_false_iff_eq.mpr c11
       clear c11
       by_cases c12 : (wrap64 (x6_1 + 1)) = (a0.size : Int)
       ·rw [if_pos c12] at H
        have c12b0 : ((wrap64 (x6_1 + 1)) == (a0.size : Int)) = true := beq_iff_eq.mpr c12
        have c12b1 : ((wrap64 (x6_1 + 1)) != (a0.size : Int)) = false := bne_eq_false_iff_eq.mpr c12
        clear c12
        simp only [Option.some.injEq, Prod.mk.injEq] at H
        obtain ⟨rfl, rfl, rfl⟩ := H
        have p4 : 0 ≤ (x6_1 : Int) := of_decide_eq_true zb3
        have q4 : x6_1 < (a0.size : Int) := of_decide_eq_true zb3
        have hx4 := bt_at a0 x6_1
        replace p4 := eq_true p4
        replace q4 := eq_true q4
        have p10 : 0 ≤ (x6_1 : Int) := of_decide_eq_true zb3
        have q10 : x6_1 < (a0.size : Int) := of_decide_eq_true zb3
        have hx10 := bt_at a0 x6_1
        replace p10 := eq_true p10
        replace q10 := eq_true q10
        go_wp2
        repeat (go_quiet (fail); try go_wp2)
        go_ret3
        exact ⟨zb6, zb0⟩
       ·rw [if_neg c12] at H
        have c12b0 : ((wrap64 (x6_1 + 1)) == (a0.size : Int)) = false := beq_eq_false_iff_ne.mpr c12
        have c12b1 : ((wrap64 (x6_1 + 1)) != (a0.size : Int)) = true := bne_iff_ne.mpr c12
        obtain ⟨ji13, hji13⟩ : ∃ j_ : Int, (wrap64 (x6_1 + 1)) = j_ := ⟨_, rfl⟩
        replace H : (if 0 ≤ (ji13) then (if (ji13) < (a0.size : Int) then (if (bt a0 (ji13)) < 32 then (if (bt a0 (ji13)) = 9 then (if (bt a0 (ji13)) = 127 then (some ((⟨#[]⟩ : ByteArray), (⟨#[]⟩ : ByteArray), false)) else (if x5_1.length < 140737488355328 then (broadsheetref13_Quoted.l0 k1 a0 (x5_1 ++ [bt a0 (ji13)]) (wrap64 ((ji13) + 1))) else (none))) else (some ((⟨#[]⟩ : ByteArray), (⟨#[]⟩ : ByteArray), false))) else (if (bt a0 (ji13)) = 127 then (some ((⟨#[]⟩ : ByteArray), (⟨#[]⟩ : ByteArray), false)) else (if x5_1.length < 140737488355328 then (broadsheetref13_Quoted.l0 k1 a0 (x5_1 ++ [bt a0 (ji13)]) (wrap64 ((ji13) + 1))) else (none)))) else (none)) else (none)) = some (r1, r2, r3) := by first | (rw [hji13] at H; exact H) | (simp only [hji13] at H ⊢; exact H)
        (try rw [hji13] at c12b0)
        (try rw [hji13] at c12b1)
        have hji13w : (IntKind.i64.wrap (x6_1 + 1)) = ji13 := (i64_w _).trans hji13
        by_cases c14 : 0 ≤ (ji13)
        ·rw [if_pos c14] at H
         have c14b0 : decide (0 ≤ (ji13)) = true := decide_eq_true c14
         clear c14
         by_cases c15 : (ji13) < (a0.size : Int)
         ·rw [if_pos c15] at H
          have c15b0 : decide ((ji13) < (a0.size : Int)) = true := decide_eq_true c15
          clear c15
          by_cases c17 : (bt a0 (ji13)) < 32
          ·rw [if_pos c17] at H
           have c17b0 : decide ((bt a0 (ji13)) < 32) = true := decide_eq_true c17
           clear c17
           by_cases c19 : (bt a0 (ji13)) = 9
           ·rw [if_pos c19] at H
            have c19b0 : ((bt a0 (ji13)) == 9) = true := beq_iff_eq.mpr c19
            have c19b1 : ((bt a0 (ji13)) != 9) = false := bne_eq_false_iff_eq.mpr c19
            clear c19
            by_cases c21 : (bt a0 (ji13)) = 127
            ·rw [if_pos c21] at H
             have c21b0 : ((bt a0 (ji13)) == 127) = true := beq_iff_eq.mpr c21
             have c21b1 : ((bt a0 (ji13)) != 127) = false := bne_eq_false_iff_eq.mpr c21
             clear c21
             simp only [Option.some.injEq, Prod.mk.injEq] at H
             obtain ⟨rfl, rfl, rfl⟩ := H
             have p4 : 0 ≤ (x6_1 : Int) := of_decide_eq_true zb3
             have q4 : x6_1 < (a0.size : Int) := of_decide_eq_true zb3
             have hx4 := bt_at a0 x6_1
             replace p4 := eq_true p4
             replace q4 := eq_true q4
             have p10 : 0 ≤ (x6_1 : Int) := of_decide_eq_true zb3
             have q10 : x6_1 < (a0.size : Int) := of_decide_eq_true zb3
             have hx10 := bt_at a0 x6_1
             replace p10 := eq_true p10
             replace q10 := eq_true q10
             have p16 : 0 ≤ ((ji13) : Int) := of_decide_eq_true zb3
             have q16 : (ji13) < (a0.size : Int) := of_decide_eq_true zb3
             have hx16 := bt_at a0 (ji13)
             replace p16 := eq_true p16
             replace q16 := eq_true q16
             have p18 : 0 ≤ ((ji13) : Int) := of_decide_eq_true zb3
             have q18 : (ji13) < (a0.size : Int) := of_decide_eq_true zb3
             have hx18 := bt_at a0 (ji13)
             replace p18 := eq_true p18
             replace q18 := eq_true q18
             have p20 : 0 ≤ ((ji13) : Int) := of_decide_eq_true zb3
             have q20 : (ji13) < (a0.size : Int) := of_decide_eq_true zb3
             have hx20 := bt_at a0 (ji13)
             replace p20 := eq_true p20
             replace q20 := eq_true q20
             go_wp2
             repeat (go_quiet (fail); try go_wp2)
             go_ret3
             exact ⟨by first | rfl | (simp [errW_none, errW_some, bne_nil_] <;> rfl) | (simp only [← hji13]; first | rfl | (simp [errW_none, errW_some, bne_nil_] <;> rfl)) | (simp [*, errW_none, errW_some] <;> rfl), zb0⟩
            ·rw [if_neg c21] at H
             have c21b0 : ((bt a0 (ji13)) == 127) = false := beq_eq_false_iff_ne.mpr c21
             have c21b1 : ((bt a0 (ji13)) != 127) = true := bne_iff_ne.mpr c21
             by_cases c23 : x5_1.length < 140737488355328
             ·rw [if_pos c23] at H
              have LMc23 := Aside0.mk c23
              clear c23
              obtain ⟨y203, hy203⟩ : ∃ y_ : List Int, y_ = (x5_1 ++ [bt a0 (ji13)]) := ⟨_, rfl⟩
              replace H : (broadsheetref13_Quoted.l0 k1 a0 y203 (wrap64 ((ji13) + 1))) = some (r1, r2, r3) := by first | (rw [hy203]; with_reducible exact H) | (have H2_ := (Option.bind_some _ _).symm.trans H; rw [hy203]; with_reducible exact H2_) | (have H2_ := (Option.bind_some _ _).symm.trans H; with_reducible exact H2_) | with_reducible exact H | (rw [hy203]; exact H) | exact H
              have Ny203 := Aside0.mk hy203
              clear hy203
              have H' := Aside0.mk H
              clear H
              have p4 : 0 ≤ (x6_1 : Int) := of_decide_eq_true zb3
              have q4 : x6_1 < (a0.size : Int) := of_decide_eq_true zb3
              have hx4 := bt_at a0 x6_1
              replace p4 := eq_true p4
              replace q4 := eq_true q4
              have p10 : 0 ≤ (x6_1 : Int) := of_decide_eq_true zb3
              have q10 : x6_1 < (a0.size : Int) := of_decide_eq_true zb3
              have hx10 := bt_at a0 x6_1
              replace p10 := eq_true p10
              replace q10 := eq_true q10
              have p16 : 0 ≤ ((ji13) : Int) := of_decide_eq_true zb3
              have q16 : (ji13) < (a0.size : Int) := of_decide_eq_true zb3
              have hx16 := bt_at a0 (ji13)
              replace p16 := eq_true p16
              replace q16 := eq_true q16
              have p18 : 0 ≤ ((ji13) : Int) := of_decide_eq_true zb3
              have q18 : (ji13) < (a0.size : Int) := of_decide_eq_true zb3
              have hx18 := bt_at a0 (ji13)
              replace p18 := eq_true p18
              replace q18 := eq_true q18
              have p20 : 0 ≤ ((ji13) : Int) := of_decide_eq_true zb3
              have q20 : (ji13) < (a0.size : Int) := of_decide_eq_true zb3
              have hx20 := bt_at a0 (ji13)
              replace p20 := eq_true p20
              replace q20 := eq_true q20
              have p22 : 0 ≤ ((ji13) : Int) := of_decide_eq_true zb3
              have q22 : (ji13) < (a0.size : Int) := of_decide_eq_true zb3
              have hx22 := bt_at a0 (ji13)
              replace p22 := eq_true p22
              replace q22 := eq_true q22
              go_wp2_with (first | ((with_reducible refine gate_builtin (b := .append) (xs := #[.tmp 59, .tmp 63]) rfl ?_); at_builtin; refine Kd.R_append (Kd.int .u8) (w0 := w) w.heap.size rfl (.tmp 59) (.tmp 63) 31 5 (.int .u8 0) 1 rfl Tryz.underlying31 info5 rfl zb47 zb42 u5 x5_1 (bt a0 (ji13)) [.int .u8 (bt a0 (ji13))] (fun _ => True) (fun _ => False) rfl rfl ?aP (fun _ hk => hk.elim) ?aF ?aO ?aB ?aS ?aL ?_; (case aP => exact rfl); (case aB => exact zb0); (case aF => exact (fun _ _ => trivial)); (case aO => exact zb26); (case aS => exact (below_size zb0)); (case aL => have := LMc23.out; omega); intro v204 w24 ho hb hg hat; rw [← Ny203.out] at ho; have n0_ := Aside0.mk (hb); have n1_ := Aside0.mk (ho); clear HB; clear HO_5; have HB := n0_; have HO205 := n1_; clear n0_ n1_; clear ho hb hg hat))
              repeat (go_quiet (first | ((with_reducible refine gate_builtin (b := .append) (xs := #[.tmp 59, .tmp 63]) rfl ?_); at_builtin; refine Kd.R_append (Kd.int .u8) (w0 := w) w.heap.size rfl (.tmp 59) (.tmp 63) 31 5 (.int .u8 0) 1 rfl Tryz.underlying31 info5 rfl zb47 zb42 u5 x5_1 (bt a0 (ji13)) [.int .u8 (bt a0 (ji13))] (fun _ => True) (fun _ => False) rfl rfl ?aP (fun _ hk => hk.elim) ?aF ?aO ?aB ?aS ?aL ?_; (case aP => exact rfl); (case aB => exact zb0); (case aF => exact (fun _ _ => trivial)); (case aO => exact zb26); (case aS => exact (below_size zb0)); (case aL => have := LMc23.out; omega); intro v204 w24 ho hb hg hat; rw [← Ny203.out] at ho; have n0_ := Aside0.mk (hb); have n1_ := Aside0.mk (ho); clear HB; clear HO_5; have HB := n0_; have HO205 := n1_; clear n0_ n1_; clear ho hb hg hat)); try go_wp2_with (first | ((with_reducible refine gate_builtin (b := .append) (xs := #[.tmp 59, .tmp 63]) rfl ?_); at_builtin; refine Kd.R_append (Kd.int .u8) (w0 := w) w.heap.size rfl (.tmp 59) (.tmp 63) 31 5 (.int .u8 0) 1 rfl Tryz.underlying31 info5 rfl zb47 zb42 u5 x5_1 (bt a0 (ji13)) [.int .u8 (bt a0 (ji13))] (fun _ => True) (fun _ => False) rfl rfl ?aP (fun _ hk => hk.elim) ?aF ?aO ?aB ?aS ?aL ?_; (case aP => exact rfl); (case aB => exact zb0); (case aF => exact (fun _ _ => trivial)); (case aO => exact zb26); (case aS => exact (below_size zb0)); (case aL => have := LMc23.out; omega); intro v204 w24 ho hb hg hat; rw [← Ny203.out] at ho; have n0_ := Aside0.mk (hb); have n1_ := Aside0.mk (ho); clear HB; clear HO_5; have HB := n0_; have HO205 := n1_; clear n0_ n1_; clear ho hb hg hat)))
              go_roundg k1
              case measure => have := HK1.out; omega
              case rel => exact ⟨(y203), (wrap64 ((ji13) + 1)), (by first | rfl | (simp; done) | (simp only [← hji13] <;> (first | rfl | simp)) | (simp [*]; done)), H', ⟨by have := HK1.out; omega⟩, ⟨by (with_reducible repeat (first | apply Kd.R_alloc | apply Kd.R_drewN | apply Kd.R_drew)); exact HO205.out⟩, ⟨by repeat (first | (with_reducible first | exact HB.out | apply below_alloc | apply pw_below_drewN | apply below_drew1) | exact HB.out)⟩⟩
             ·rw [if_neg c23] at H
              exact absurd H zb45
           ·rw [if_neg c19] at H
            have c19b0 : ((bt a0 (ji13)) == 9) = false := beq_eq_false_iff_ne.mpr c19
            have c19b1 : ((bt a0 (ji13)) != 9) = true := bne_iff_ne.mpr c19
            simp only [Option.some.injEq, Prod.mk.injEq] at H
            obtain ⟨rfl, rfl, rfl⟩ := H
            have p4 : 0 ≤ (x6_1 : Int) := of_decide_eq_true zb3
            have q4 : x6_1 < (a0.size : Int) := of_decide_eq_true zb3
            have hx4 := bt_at a0 x6_1
            replace p4 := eq_true p4
            replace q4 := eq_true q4
            have p10 : 0 ≤ (x6_1 : Int) := of_decide_eq_true zb3
            have q10 : x6_1 < (a0.size : Int) := of_decide_eq_true zb3
            have hx10 := bt_at a0 x6_1
            replace p10 := eq_true p10
            replace q10 := eq_true q10
            have p16 : 0 ≤ ((ji13) : Int) := of_decide_eq_true zb3
            have q16 : (ji13) < (a0.size : Int) := of_decide_eq_true zb3
            have hx16 := bt_at a0 (ji13)
            replace p16 := eq_true p16
            replace q16 := eq_true q16
            have p18 : 0 ≤ ((ji13) : Int) := of_decide_eq_true zb3
            have q18 : (ji13) < (a0.size : Int) := of_decide_eq_true zb3
            have hx18 := bt_at a0 (ji13)
            replace p18 := eq_true p18
            replace q18 := eq_true q18
            go_wp2
            repeat (go_quiet (fail); try go_wp2)
            go_ret3
            exact ⟨by first | rfl | (simp [errW_none, errW_some, bne_nil_] <;> rfl) | (simp only [← hji13]; first | rfl | (simp [errW_none, errW_some, bne_nil_] <;> rfl)) | (simp [*, errW_none, errW_some] <;> rfl), zb0⟩
          ·rw [if_neg c17] at H
           have c17b0 : decide ((bt a0 (ji13)) < 32) = false := decide_eq_false c17
           clear c17
           by_cases c26 : (bt a0 (ji13)) = 127
           ·rw [if_pos c26] at H
            have c26b0 : ((bt a0 (ji13)) == 127) = true := beq_iff_eq.mpr c26
            have c26b1 : ((bt a0 (ji13)) != 127) = false := bne_eq_false_iff_eq.mpr c26
            clear c26
            simp only [Option.some.injEq, Prod.mk.injEq] at H
            obtain ⟨rfl, rfl, rfl⟩ := H
            have p4 : 0 ≤ (x6_1 : Int) := of_decide_eq_true zb3
            have q4 : x6_1 < (a0.size : Int) := of_decide_eq_true zb3
            have hx4 := bt_at a0 x6_1
            replace p4 := eq_true p4
            replace q4 := eq_true q4
            have p10 : 0 ≤ (x6_1 : Int) := of_decide_eq_true zb3
            have q10 : x6_1 < (a0.size : Int) := of_decide_eq_true zb3
            have hx10 := bt_at a0 x6_1
            replace p10 := eq_true p10
            replace q10 := eq_true q10
            have p16 : 0 ≤ ((ji13) : Int) := of_decide_eq_true zb3
            have q16 : (ji13) < (a0.size : Int) := of_decide_eq_true zb3
            have hx16 := bt_at a0 (ji13)
            replace p16 := eq_true p16
            replace q16 := eq_true q16
            have p25 : 0 ≤ ((ji13) : Int) := of_decide_eq_true zb3
            have q25 : (ji13) < (a0.size : Int) := of_decide_eq_true zb3
            have hx25 := bt_at a0 (ji13)
            replace p25 := eq_true p25
            replace q25 := eq_true q25
            go_wp2
            repeat (go_quiet (fail); try go_wp2)
            go_ret3
            exact ⟨by first | rfl | (simp [errW_none, errW_some, bne_nil_] <;> rfl) | (simp only [← hji13]; first | rfl | (simp [errW_none, errW_some, bne_nil_] <;> rfl)) | (simp [*, errW_none, errW_some] <;> rfl), zb0⟩
           ·rw [if_neg c26] at H
            have c26b0 : ((bt a0 (ji13)) == 127) = false := beq_eq_false_iff_ne.mpr c26
            have c26b1 : ((bt a0 (ji13)) != 127) = true := bne_iff_ne.mpr c26
            by_cases c28 : x5_1.length < 140737488355328
            ·rw [if_pos c28] at H
             have LMc28 := Aside0.mk c28
             clear c28
             obtain ⟨y206, hy206⟩ : ∃ y_ : List Int, y_ = (x5_1 ++ [bt a0 (ji13)]) := ⟨_, rfl⟩
             replace H : (broadsheetref13_Quoted.l0 k1 a0 y206 (wrap64 ((ji13) + 1))) = some (r1, r2, r3) := by first | (rw [hy206]; with_reducible exact H) | (have H2_ := (Option.bind_some _ _).symm.trans H; rw [hy206]; with_reducible exact H2_) | (have H2_ := (Option.bind_some _ _).symm.trans H; with_reducible exact H2_) | with_reducible exact H | (rw [hy206]; exact H) | exact H
             have Ny206 := Aside0.mk hy206
             clear hy206
             have H' := Aside0.mk H
             clear H
             have p4 : 0 ≤ (x6_1 : Int) := of_decide_eq_true zb3
             have q4 : x6_1 < (a0.size : Int) := of_decide_eq_true zb3
             have hx4 := bt_at a0 x6_1
             replace p4 := eq_true p4
             replace q4 := eq_true q4
             have p10 : 0 ≤ (x6_1 : Int) := of_decide_eq_true zb3
             have q10 : x6_1 < (a0.size : Int) := of_decide_eq_true zb3
             have hx10 := bt_at a0 x6_1
             replace p10 := eq_true p10
             replace q10 := eq_true q10
             have p16 : 0 ≤ ((ji13) : Int) := of_decide_eq_true zb3
             have q16 : (ji13) < (a0.size : Int) := of_decide_eq_true zb3
             have hx16 := bt_at a0 (ji13)
             replace p16 := eq_true p16
             replace q16 := eq_true q16
             have p25 : 0 ≤ ((ji13) : Int) := of_decide_eq_true zb3
             have q25 : (ji13) < (a0.size : Int) := of_decide_eq_true zb3
             have hx25 := bt_at a0 (ji13)
             replace p25 := eq_true p25
             replace q25 := eq_true q25
             have p27 : 0 ≤ ((ji13) : Int) := of_decide_eq_true zb3
             have q27 : (ji13) < (a0.size : Int) := of_decide_eq_true zb3
             have hx27 := bt_at a0 (ji13)
             replace p27 := eq_true p27
             replace q27 := eq_true q27
             go_wp2_with (first | ((with_reducible refine gate_builtin (b := .append) (xs := #[.tmp 59, .tmp 63]) rfl ?_); at_builtin; refine Kd.R_append (Kd.int .u8) (w0 := w) w.heap.size rfl (.tmp 59) (.tmp 63) 31 5 (.int .u8 0) 1 rfl Tryz.underlying31 info5 rfl zb47 zb42 u5 x5_1 (bt a0 (ji13)) [.int .u8 (bt a0 (ji13))] (fun _ => True) (fun _ => False) rfl rfl ?aP (fun _ hk => hk.elim) ?aF ?aO ?aB ?aS ?aL ?_; (case aP => exact rfl); (case aB => exact zb0); (case aF => exact (fun _ _ => trivial)); (case aO => exact zb26); (case aS => exact (below_size zb0)); (case aL => have := LMc28.out; omega); intro v207 w29 ho hb hg hat; rw [← Ny206.out] at ho; have n0_ := Aside0.mk (hb); have n1_ := Aside0.mk (ho); clear HB; clear HO_5; have HB := n0_; have HO208 := n1_; clear n0_ n1_; clear ho hb hg hat))
             repeat (go_quiet (first | ((with_reducible refine gate_builtin (b := .append) (xs := #[.tmp 59, .tmp 63]) rfl ?_); at_builtin; refine Kd.R_append (Kd.int .u8) (w0 := w) w.heap.size rfl (.tmp 59) (.tmp 63) 31 5 (.int .u8 0) 1 rfl Tryz.underlying31 info5 rfl zb47 zb42 u5 x5_1 (bt a0 (ji13)) [.int .u8 (bt a0 (ji13))] (fun _ => True) (fun _ => False) rfl rfl ?aP (fun _ hk => hk.elim) ?aF ?aO ?aB ?aS ?aL ?_; (case aP => exact rfl); (case aB => exact zb0); (case aF => exact (fun _ _ => trivial)); (case aO => exact zb26); (case aS => exact (below_size zb0)); (case aL => have := LMc28.out; omega); intro v207 w29 ho hb hg hat; rw [← Ny206.out] at ho; have n0_ := Aside0.mk (hb); have n1_ := Aside0.mk (ho); clear HB; clear HO_5; have HB := n0_; have HO208 := n1_; clear n0_ n1_; clear ho hb hg hat)); try go_wp2_with (first | ((with_reducible refine gate_builtin (b := .append) (xs := #[.tmp 59, .tmp 63]) rfl ?_); at_builtin; refine Kd.R_append (Kd.int .u8) (w0 := w) w.heap.size rfl (.tmp 59) (.tmp 63) 31 5 (.int .u8 0) 1 rfl Tryz.underlying31 info5 rfl zb47 zb42 u5 x5_1 (bt a0 (ji13)) [.int .u8 (bt a0 (ji13))] (fun _ => True) (fun _ => False) rfl rfl ?aP (fun _ hk => hk.elim) ?aF ?aO ?aB ?aS ?aL ?_; (case aP => exact rfl); (case aB => exact zb0); (case aF => exact (fun _ _ => trivial)); (case aO => exact zb26); (case aS => exact (below_size zb0)); (case aL => have := LMc28.out; omega); intro v207 w29 ho hb hg hat; rw [← Ny206.out] at ho; have n0_ := Aside0.mk (hb); have n1_ := Aside0.mk (ho); clear HB; clear HO_5; have HB := n0_; have HO208 := n1_; clear n0_ n1_; clear ho hb hg hat)))
             go_roundg k1
             case measure => have := HK1.out; omega
             case rel => exact ⟨(y206), (wrap64 ((ji13) + 1)), (by first | rfl | (simp; done) | (simp only [← hji13] <;> (first | rfl | simp)) | (simp [*]; done)), H', ⟨by have := HK1.out; omega⟩, ⟨by (with_reducible repeat (first | apply Kd.R_alloc | apply Kd.R_drewN | apply Kd.R_drew)); exact HO208.out⟩, ⟨by repeat (first | (with_reducible first | exact HB.out | apply below_alloc | apply pw_below_drewN | apply below_drew1) | exact HB.out)⟩⟩
            ·rw [if_neg c28] at H
             exact absurd H zb45
         ·rw [if_neg c15] at H
          exact absurd H zb45
        ·rw [if_neg c14] at H
         exact absurd H zb45
      ·rw [if_neg c11] at H
       have c11b0 : ((bt a0 x6_1) == 92) = false := beq_eq_false_iff_ne.mpr c11
       have c11b1 : ((bt a0 x6_1) != 92) = true := bne_iff_ne.mpr c11
       by_cases c31 : (bt a0 x6_1) < 32
       ·rw [if_pos c31] at H
        have c31b0 : decide ((bt a0 x6_1) < 32) = true := decide_eq_true c31
        clear c31
        by_cases c33 : (bt a0 x6_1) = 9
        ·rw [if_pos c33] at H
         have c33b0 : ((bt a0 x6_1) == 9) = true := beq_iff_eq.mpr c33
         have c33b1 : ((bt a0 x6_1) != 9) = false := bne_eq_false_iff_eq.mpr c33
         clear c33
         by_cases c35 : (bt a0 x6_1) = 127
         ·rw [if_pos c35] at H
          have c35b0 : ((bt a0 x6_1) == 127) = true := beq_iff_eq.mpr c35
          have c35b1 : ((bt a0 x6_1) != 127) = false := bne_eq_false_iff_eq.mpr c35
          clear c35
          simp only [Option.some.injEq, Prod.mk.injEq] at H
          obtain ⟨rfl, rfl, rfl⟩ := H
          have p4 : 0 ≤ (x6_1 : Int) := of_decide_eq_true zb3
          have q4 : x6_1 < (a0.size : Int) := of_decide_eq_true zb3
          have hx4 := bt_at a0 x6_1
          replace p4 := eq_true p4
          replace q4 := eq_true q4
          have p10 : 0 ≤ (x6_1 : Int) := of_decide_eq_true zb3
          have q10 : x6_1 < (a0.size : Int) := of_decide_eq_true zb3
          have hx10 := bt_at a0 x6_1
          replace p10 := eq_true p10
          replace q10 := eq_true q10
          have p30 : 0 ≤ (x6_1 : Int) := of_decide_eq_true zb3
          have q30 : x6_1 < (a0.size : Int) := of_decide_eq_true zb3
          have hx30 := bt_at a0 x6_1
          replace p30 := eq_true p30
          replace q30 := eq_true q30
          have p32 : 0 ≤ (x6_1 : Int) := of_decide_eq_true zb3
          have q32 : x6_1 < (a0.size : Int) := of_decide_eq_true zb3
          have hx32 := bt_at a0 x6_1
          replace p32 := eq_true p32
          replace q32 := eq_true q32
          have p34 : 0 ≤ (x6_1 : Int) := of_decide_eq_true zb3
          have q34 : x6_1 < (a0.size : Int) := of_decide_eq_true zb3
          have hx34 := bt_at a0 x6_1
          replace p34 := eq_true p34
          replace q34 := eq_true q34
          go_wp2
          repeat (go_quiet (fail); try go_wp2)
          go_ret3
          exact ⟨zb6, zb0⟩
         ·rw [if_neg c35] at H
          have c35b0 : ((bt a0 x6_1) == 127) = false := beq_eq_false_iff_ne.mpr c35
          have c35b1 : ((bt a0 x6_1) != 127) = true := bne_iff_ne.mpr c35
          by_cases c37 : x5_1.length < 140737488355328
          ·rw [if_pos c37] at H
           have LMc37 := Aside0.mk c37
           clear c37
           obtain ⟨y209, hy209⟩ : ∃ y_ : List Int, y_ = (x5_1 ++ [bt a0 x6_1]) := ⟨_, rfl⟩
           replace H : (broadsheetref13_Quoted.l0 k1 a0 y209 (wrap64 (x6_1 + 1))) = some (r1, r2, r3) := by first | (rw [hy209]; with_reducible exact H) | (have H2_ := (Option.bind_some _ _).symm.trans H; rw [hy209]; with_reducible exact H2_) | (have H2_ := (Option.bind_some _ _).symm.trans H; with_reducible exact H2_) | with_reducible exact H | (rw [hy209]; exact H) | exact H
           have Ny209 := Aside0.mk hy209
           clear hy209
           have H' := Aside0.mk H
           clear H
           have p4 : 0 ≤ (x6_1 : Int) := of_decide_eq_true zb3
           have q4 : x6_1 < (a0.size : Int) := of_decide_eq_true zb3
           have hx4 := bt_at a0 x6_1
           replace p4 := eq_true p4
           replace q4 := eq_true q4
           have p10 : 0 ≤ (x6_1 : Int) := of_decide_eq_true zb3
           have q10 : x6_1 < (a0.size : Int) := of_decide_eq_true zb3
           have hx10 := bt_at a0 x6_1
           replace p10 := eq_true p10
           replace q10 := eq_true q10
           have p30 : 0 ≤ (x6_1 : Int) := of_decide_eq_true zb3
           have q30 : x6_1 < (a0.size : Int) := of_decide_eq_true zb3
           have hx30 := bt_at a0 x6_1
           replace p30 := eq_true p30
           replace q30 := eq_true q30
           have p32 : 0 ≤ (x6_1 : Int) := of_decide_eq_true zb3
           have q32 : x6_1 < (a0.size : Int) := of_decide_eq_true zb3
           have hx32 := bt_at a0 x6_1
           replace p32 := eq_true p32
           replace q32 := eq_true q32
           have p34 : 0 ≤ (x6_1 : Int) := of_decide_eq_true zb3
           have q34 : x6_1 < (a0.size : Int) := of_decide_eq_true zb3
           have hx34 := bt_at a0 x6_1
           replace p34 := eq_true p34
           replace q34 := eq_true q34
           have p36 : 0 ≤ (x6_1 : Int) := of_decide_eq_true zb3
           have q36 : x6_1 < (a0.size : Int) := of_decide_eq_true zb3
           have hx36 := bt_at a0 x6_1
           replace p36 := eq_true p36
           replace q36 := eq_true q36
           go_wp2_with (first | ((with_reducible refine gate_builtin (b := .append) (xs := #[.tmp 13, .tmp 17]) rfl ?_); at_builtin; refine Kd.R_append (Kd.int .u8) (w0 := w) w.heap.size rfl (.tmp 13) (.tmp 17) 31 5 (.int .u8 0) 1 rfl Tryz.underlying31 info5 rfl zb47 zb42 u5 x5_1 (bt a0 x6_1) [.int .u8 (bt a0 x6_1)] (fun _ => True) (fun _ => False) rfl rfl ?aP (fun _ hk => hk.elim) ?aF ?aO ?aB ?aS ?aL ?_; (case aP => exact rfl); (case aB => exact zb0); (case aF => exact (fun _ _ => trivial)); (case aO => exact zb26); (case aS => exact (below_size zb0)); (case aL => have := LMc37.out; omega); intro v210 w38 ho hb hg hat; rw [← Ny209.out] at ho; have n0_ := Aside0.mk (hb); have n1_ := Aside0.mk (ho); clear HB; clear HO_5; have HB := n0_; have HO211 := n1_; clear n0_ n1_; clear ho hb hg hat))
           repeat (go_quiet (first | ((with_reducible refine gate_builtin (b := .append) (xs := #[.tmp 13, .tmp 17]) rfl ?_); at_builtin; refine Kd.R_append (Kd.int .u8) (w0 := w) w.heap.size rfl (.tmp 13) (.tmp 17) 31 5 (.int .u8 0) 1 rfl Tryz.underlying31 info5 rfl zb47 zb42 u5 x5_1 (bt a0 x6_1) [.int .u8 (bt a0 x6_1)] (fun _ => True) (fun _ => False) rfl rfl ?aP (fun _ hk => hk.elim) ?aF ?aO ?aB ?aS ?aL ?_; (case aP => exact rfl); (case aB => exact zb0); (case aF => exact (fun _ _ => trivial)); (case aO => exact zb26); (case aS => exact (below_size zb0)); (case aL => have := LMc37.out; omega); intro v210 w38 ho hb hg hat; rw [← Ny209.out] at ho; have n0_ := Aside0.mk (hb); have n1_ := Aside0.mk (ho); clear HB; clear HO_5; have HB := n0_; have HO211 := n1_; clear n0_ n1_; clear ho hb hg hat)); try go_wp2_with (first | ((with_reducible refine gate_builtin (b := .append) (xs := #[.tmp 13, .tmp 17]) rfl ?_); at_builtin; refine Kd.R_append (Kd.int .u8) (w0 := w) w.heap.size rfl (.tmp 13) (.tmp 17) 31 5 (.int .u8 0) 1 rfl Tryz.underlying31 info5 rfl zb47 zb42 u5 x5_1 (bt a0 x6_1) [.int .u8 (bt a0 x6_1)] (fun _ => True) (fun _ => False) rfl rfl ?aP (fun _ hk => hk.elim) ?aF ?aO ?aB ?aS ?aL ?_; (case aP => exact rfl); (case aB => exact zb0); (case aF => exact (fun _ _ => trivial)); (case aO => exact zb26); (case aS => exact (below_size zb0)); (case aL => have := LMc37.out; omega); intro v210 w38 ho hb hg hat; rw [← Ny209.out] at ho; have n0_ := Aside0.mk (hb); have n1_ := Aside0.mk (ho); clear HB; clear HO_5; have HB := n0_; have HO211 := n1_; clear n0_ n1_; clear ho hb hg hat)))
           go_roundg k1
           case measure => have := HK1.out; omega
           case rel => exact ⟨(y209), (wrap64 (x6_1 + 1)), zb4, H', ⟨by have := HK1.out; omega⟩, ⟨by (with_reducible repeat (first | apply Kd.R_alloc | apply Kd.R_drewN | apply Kd.R_drew)); exact HO211.out⟩, ⟨by repeat (first | (with_reducible first | exact HB.out | apply below_alloc | apply pw_below_drewN | apply below_drew1) | exact HB.out)⟩⟩
          ·rw [if_neg c37] at H
           exact absurd H zb45
        ·rw [if_neg c33] at H
         have c33b0 : ((bt a0 x6_1) == 9) = false := beq_eq_false_iff_ne.mpr c33
         have c33b1 : ((bt a0 x6_1) != 9) = true := bne_iff_ne.mpr c33
         simp only [Option.some.injEq, Prod.mk.injEq] at H
         obtain ⟨rfl, rfl, rfl⟩ := H
         have p4 : 0 ≤ (x6_1 : Int) := of_decide_eq_true zb3
         have q4 : x6_1 < (a0.size : Int) := of_decide_eq_true zb3
         have hx4 := bt_at a0 x6_1
         replace p4 := eq_true p4
         replace q4 := eq_true q4
         have p10 : 0 ≤ (x6_1 : Int) := of_decide_eq_true zb3
         have q10 : x6_1 < (a0.size : Int) := of_decide_eq_true zb3
         have hx10 := bt_at a0 x6_1
         replace p10 := eq_true p10
         replace q10 := eq_true q10
         have p30 : 0 ≤ (x6_1 : Int) := of_decide_eq_true zb3
         have q30 : x6_1 < (a0.size : Int) := of_decide_eq_true zb3
         have hx30 := bt_at a0 x6_1
         replace p30 := eq_true p30
         replace q30 := eq_true q30
         have p32 : 0 ≤ (x6_1 : Int) := of_decide_eq_true zb3
         have q32 : x6_1 < (a0.size : Int) := of_decide_eq_true zb3
         have hx32 := bt_at a0 x6_1
         replace p32 := eq_true p32
         replace q32 := eq_true q32
         go_wp2
         repeat (go_quiet (fail); try go_wp2)
         go_ret3
         exact ⟨zb6, zb0⟩
       ·rw [if_neg c31] at H
        have c31b0 : decide ((bt a0 x6_1) < 32) = false := decide_eq_false c31
        clear c31
        by_cases c40 : (bt a0 x6_1) = 127
        ·rw [if_pos c40] at H
         have c40b0 : ((bt a0 x6_1) == 127) = true := beq_iff_eq.mpr c40
         have c40b1 : ((bt a0 x6_1) != 127) = false := bne_eq_false_iff_eq.mpr c40
         clear c40
         simp only [Option.some.injEq, Prod.mk.injEq] at H
         obtain ⟨rfl, rfl, rfl⟩ := H
         have p4 : 0 ≤ (x6_1 : Int) := of_decide_eq_true zb3
         have q4 : x6_1 < (a0.size : Int) := of_decide_eq_true zb3
         have hx4 := bt_at a0 x6_1
         replace p4 := eq_true p4
         replace q4 := eq_true q4
         have p10 : 0 ≤ (x6_1 : Int) := of_decide_eq_true zb3
         have q10 : x6_1 < (a0.size : Int) := of_decide_eq_true zb3
         have hx10 := bt_at a0 x6_1
         replace p10 := eq_true p10
         replace q10 := eq_true q10
         have p30 : 0 ≤ (x6_1 : Int) := of_decide_eq_true zb3
         have q30 : x6_1 < (a0.size : Int) := of_decide_eq_true zb3
         have hx30 := bt_at a0 x6_1
         replace p30 := eq_true p30
         replace q30 := eq_true q30
         have p39 : 0 ≤ (x6_1 : Int) := of_decide_eq_true zb3
         have q39 : x6_1 < (a0.size : Int) := of_decide_eq_true zb3
         have hx39 := bt_at a0 x6_1
         replace p39 := eq_true p39
         replace q39 := eq_true q39
         go_wp2
         repeat (go_quiet (fail); try go_wp2)
         go_ret3
         exact ⟨zb6, zb0⟩
        ·rw [if_neg c40] at H
         have c40b0 : ((bt a0 x6_1) == 127) = false := beq_eq_false_iff_ne.mpr c40
         have c40b1 : ((bt a0 x6_1) != 127) = true := bne_iff_ne.mpr c40
         by_cases c42 : x5_1.length < 140737488355328
         ·rw [if_pos c42] at H
          have LMc42 := Aside0.mk c42
          clear c42
          obtain ⟨y212, hy212⟩ : ∃ y_ : List Int, y_ = (x5_1 ++ [bt a0 x6_1]) := ⟨_, rfl⟩
          replace H : (broadsheetref13_Quoted.l0 k1 a0 y212 (wrap64 (x6_1 + 1))) = some (r1, r2, r3) := by first | (rw [hy212]; with_reducible exact H) | (have H2_ := (Option.bind_some _ _).symm.trans H; rw [hy212]; with_reducible exact H2_) | (have H2_ := (Option.bind_some _ _).symm.trans H; with_reducible exact H2_) | with_reducible exact H | (rw [hy212]; exact H) | exact H
          have Ny212 := Aside0.mk hy212
          clear hy212
          have H' := Aside0.mk H
          clear H
          have p4 : 0 ≤ (x6_1 : Int) := of_decide_eq_true zb3
          have q4 : x6_1 < (a0.size : Int) := of_decide_eq_true zb3
          have hx4 := bt_at a0 x6_1
          replace p4 := eq_true p4
          replace q4 := eq_true q4
          have p10 : 0 ≤ (x6_1 : Int) := of_decide_eq_true zb3
          have q10 : x6_1 < (a0.size : Int) := of_decide_eq_true zb3
          have hx10 := bt_at a0 x6_1
          replace p10 := eq_true p10
          replace q10 := eq_true q10
          have p30 : 0 ≤ (x6_1 : Int) := of_decide_eq_true zb3
          have q30 : x6_1 < (a0.size : Int) := of_decide_eq_true zb3
          have hx30 := bt_at a0 x6_1
          replace p30 := eq_true p30
          replace q30 := eq_true q30
          have p39 : 0 ≤ (x6_1 : Int) := of_decide_eq_true zb3
          have q39 : x6_1 < (a0.size : Int) := of_decide_eq_true zb3
          have hx39 := bt_at a0 x6_1
          replace p39 := eq_true p39
          replace q39 := eq_true q39
          have p41 : 0 ≤ (x6_1 : Int) := of_decide_eq_true zb3
          have q41 : x6_1 < (a0.size : Int) := of_decide_eq_true zb3
          have hx41 := bt_at a0 x6_1
          replace p41 := eq_true p41
          replace q41 := eq_true q41
          go_wp2_with (first | ((with_reducible refine gate_builtin (b := .append) (xs := #[.tmp 13, .tmp 17]) rfl ?_); at_builtin; refine Kd.R_append (Kd.int .u8) (w0 := w) w.heap.size rfl (.tmp 13) (.tmp 17) 31 5 (.int .u8 0) 1 rfl Tryz.underlying31 info5 rfl zb47 zb42 u5 x5_1 (bt a0 x6_1) [.int .u8 (bt a0 x6_1)] (fun _ => True) (fun _ => False) rfl rfl ?aP (fun _ hk => hk.elim) ?aF ?aO ?aB ?aS ?aL ?_; (case aP => exact rfl); (case aB => exact zb0); (case aF => exact (fun _ _ => trivial)); (case aO => exact zb26); (case aS => exact (below_size zb0)); (case aL => have := LMc42.out; omega); intro v213 w43 ho hb hg hat; rw [← Ny212.out] at ho; have n0_ := Aside0.mk (hb); have n1_ := Aside0.mk (ho); clear HB; clear HO_5; have HB := n0_; have HO214 := n1_; clear n0_ n1_; clear ho hb hg hat))
          repeat (go_quiet (first | ((with_reducible refine gate_builtin (b := .append) (xs := #[.tmp 13, .tmp 17]) rfl ?_); at_builtin; refine Kd.R_append (Kd.int .u8) (w0 := w) w.heap.size rfl (.tmp 13) (.tmp 17) 31 5 (.int .u8 0) 1 rfl Tryz.underlying31 info5 rfl zb47 zb42 u5 x5_1 (bt a0 x6_1) [.int .u8 (bt a0 x6_1)] (fun _ => True) (fun _ => False) rfl rfl ?aP (fun _ hk => hk.elim) ?aF ?aO ?aB ?aS ?aL ?_; (case aP => exact rfl); (case aB => exact zb0); (case aF => exact (fun _ _ => trivial)); (case aO => exact zb26); (case aS => exact (below_size zb0)); (case aL => have := LMc42.out; omega); intro v213 w43 ho hb hg hat; rw [← Ny212.out] at ho; have n0_ := Aside0.mk (hb); have n1_ := Aside0.mk (ho); clear HB; clear HO_5; have HB := n0_; have HO214 := n1_; clear n0_ n1_; clear ho hb hg hat)); try go_wp2_with (first | ((with_reducible refine gate_builtin (b := .append) (xs := #[.tmp 13, .tmp 17]) rfl ?_); at_builtin; refine Kd.R_append (Kd.int .u8) (w0 := w) w.heap.size rfl (.tmp 13) (.tmp 17) 31 5 (.int .u8 0) 1 rfl Tryz.underlying31 info5 rfl zb47 zb42 u5 x5_1 (bt a0 x6_1) [.int .u8 (bt a0 x6_1)] (fun _ => True) (fun _ => False) rfl rfl ?aP (fun _ hk => hk.elim) ?aF ?aO ?aB ?aS ?aL ?_; (case aP => exact rfl); (case aB => exact zb0); (case aF => exact (fun _ _ => trivial)); (case aO => exact zb26); (case aS => exact (below_size zb0)); (case aL => have := LMc42.out; omega); intro v213 w43 ho hb hg hat; rw [← Ny212.out] at ho; have n0_ := Aside0.mk (hb); have n1_ := Aside0.mk (ho); clear HB; clear HO_5; have HB := n0_; have HO214 := n1_; clear n0_ n1_; clear ho hb hg hat)))
          go_roundg k1
          case measure => have := HK1.out; omega
          case rel => exact ⟨(y212), (wrap64 (x6_1 + 1)), zb4, H', ⟨by have := HK1.out; omega⟩, ⟨by (with_reducible repeat (first | apply Kd.R_alloc | apply Kd.R_drewN | apply Kd.R_drew)); exact HO214.out⟩, ⟨by repeat (first | (with_reducible first | exact HB.out | apply below_alloc | apply pw_below_drewN | apply below_drew1) | exact HB.out)⟩⟩
         ·rw [if_neg c42] at H
          exact absurd H zb45
    ·rw [if_neg c3] at H
     exact absurd H zb45
   ·rw [if_neg c2] at H
    have c2b0 : decide (x6_1 < (a0.size : Int)) = false := decide_eq_false c2
    clear c2
    simp only [Option.some.injEq, Prod.mk.injEq] at H
    obtain ⟨rfl, rfl, rfl⟩ := H
    go_wp2
    repeat (go_quiet (fail); try go_wp2)
    go_ret3
    exact ⟨zb6, zb0⟩
def broadsheetref13_value.j0 : Nat → ByteArray → Bool → Option (ByteArray × ByteArray × Bool)
  | 0, _, _ => none
  | k + 1, x0, x13 => if x13 = true then (if 1 ≤ (x0.size : Int) then ((broadsheetref13_Quoted.f k (x0.extract 1 x0.size)).bind fun bt215 => (some (bt215.1, bt215.2.1, bt215.2.2))) else (none)) else ((broadsheetref13_Token.f k x0).bind fun bt218 => (some (bt218.1, bt218.2, (bt218.1.toList != ([] : List UInt8)))))
def broadsheetref13_value.f (k : Nat) (a0 : ByteArray) : Option (ByteArray × ByteArray × Bool) := if a0.toList = ([] : List UInt8) then (broadsheetref13_value.j0 k a0 false) else (if 0 < (a0.size : Int) then (broadsheetref13_value.j0 k a0 ((bt a0 0) == 34)) else (none))
set_option maxHeartbeats 8000000 in
set_option maxRecDepth 100000 in
theorem broadsheetref13_value.calls (k : Nat) (a0 : ByteArray) (r1 : ByteArray) (r2 : ByteArray) (r3 : Bool) (w : World) (h : broadsheetref13_value.f k a0 = some (r1, r2, r3)) :
  Calls Tryz.prog 73 #[.string a0] w fun e w' => e = .returned (.tuple #[.string r1, .string r2, .bool r3]) ∧ Below w.heap.size w w' := by
 have HB := Aside0.mk (Below.refl w.heap.size w)
 have H : (if a0.toList = ([] : List UInt8) then (broadsheetref13_value.j0 k a0 false) else (if 0 < (a0.size : Int) then (broadsheetref13_value.j0 k a0 ((bt a0 0) == 34)) else (none))) = some (r1, r2, r3) := h
 clear h
 have HC2 := Aside0.mk H
 clear H
 go_enter Tryz.func73, Tryz.ntmps73
 go_upto_region 1 with (fail)
 go_cut [13] (fun v13 wc => ∃ (kq : Nat) (x13_1 : Bool), v13 = .bool x13_1 ∧ Aside0 (broadsheetref13_value.j0 kq a0 x13_1 = some (r1, r2, r3)) ∧ Aside0 (kq ≤ k) ∧ Aside0 (Below w.heap.size w wc))
 case first =>
  have H := HC2.out
  clear HC2
  by_cases c3 : a0.toList = ([] : List UInt8)
  ·rw [if_pos c3] at H
   have c3b0 : (a0.toList == ([] : List UInt8)) = true := beq_iff_eq.mpr c3
   have c3b1 : (a0.toList != ([] : List UInt8)) = false := bne_eq_false_iff_eq.mpr c3
   clear c3
   (first | rw [c3b0] | (simp only [i64_w, i32_w]; rw [c3b0]) | skip)
   have H' := Aside0.mk H
   clear H
   go_wp2
   go_meet
   case rel => exact ⟨_, (false), zb4, H', ⟨by first | omega | exact Nat.le_refl _⟩, ⟨by repeat (first | (with_reducible first | exact HB.out | apply below_alloc | apply pw_below_drewN | apply below_drew1) | exact HB.out)⟩⟩
  ·rw [if_neg c3] at H
   have c3b0 : (a0.toList == ([] : List UInt8)) = false := beq_eq_false_iff_ne.mpr c3
   have c3b1 : (a0.toList != ([] : List UInt8)) = true := bne_iff_ne.mpr c3
   (first | rw [c3b0] | (simp only [i64_w, i32_w]; rw [c3b0]) | skip)
   by_cases c4 : 0 < (a0.size : Int)
   ·rw [if_pos c4] at H
    have c4b0 : decide (0 < (a0.size : Int)) = true := decide_eq_true c4
    have c4b1 : decide (0 < a0.size) = true := decide_eq_true zb42
    clear c4
    have H' := Aside0.mk H
    clear H
    have p5 : 0 ≤ (0 : Int) := zb42
    have q5 : 0 < a0.size := (by have : (0 : Int) < (a0.size : Int) := of_decide_eq_true zb3; omega)
    have hx5 : ∀ h : 0 < a0.size, ((a0[0]'h).toNat : Int) = bt a0 0 := bt_at a0 0
    clear p5
    have qi5 : (0 < (a0.size : Int)) = True := eq_true (of_decide_eq_true zb3)
    replace q5 := eq_true q5
    go_wp2
    go_meet
    case rel => exact ⟨_, (((bt a0 0) == 34)), zb4, H', ⟨by first | omega | exact Nat.le_refl _⟩, ⟨by repeat (first | (with_reducible first | exact HB.out | apply below_alloc | apply pw_below_drewN | apply below_drew1) | exact HB.out)⟩⟩
   ·rw [if_neg c4] at H
    exact absurd H zb45
 case rest =>
  clear HC2
  try clear p2
  try clear c3
  try clear c3b0
  try clear c3b1
  try clear c4
  try clear c4b0
  try clear c4b1
  try clear p5
  try clear q5
  try clear hx5
  try clear qi5
  try clear p5
  try clear q5
  obtain ⟨kq, x13_1, rfl, HA, HJ1, HB⟩ := hcut
  cases kq with
  | zero => exact absurd HA.out (by simp [broadsheetref13_value.j0])
  | succ kj1 =>
   have H := HA.out
   clear HA
   simp only [broadsheetref13_value.j0] at H
   by_cases c6 : x13_1 = true
   ·subst c6
    replace H : (if 1 ≤ (a0.size : Int) then ((broadsheetref13_Quoted.f kj1 (a0.extract 1 a0.size)).bind fun bt215 => (some (bt215.1, bt215.2.1, bt215.2.2))) else (none)) = some (r1, r2, r3) := by rw [if_pos rfl] at H; exact H
    by_cases c7 : 1 ≤ (a0.size : Int)
    ·rw [if_pos c7] at H
     have c7b0 := eq_true c7
     have c7b1 : decide (1 ≤ (a0.size : Int)) = true := decide_eq_true c7
     clear c7
     replace H := Option.bind_eq_some_iff.mp H
     obtain ⟨⟨t215, t216, t217⟩, A80, H⟩ := H
     replace H : (some (t215, t216, t217)) = some (r1, r2, r3) := H
     have A8 := Aside0.mk A80
     clear A80
     simp only [Option.some.injEq, Prod.mk.injEq] at H
     obtain ⟨rfl, rfl, rfl⟩ := H
     go_wp2_with (first | ((with_reducible refine gate_callee (f := 87) rfl ?_); refine goesL_ (some 16) rfl rfl Tryz.func87 zb9 rfl #[.string (a0.extract 1 a0.size)] rfl zb2 ?_; (with_reducible refine (broadsheetref13_Quoted.calls kj1 (a0.extract 1 a0.size) t215 t216 t217 _ A8.out).mono ?_); rintro e w9 ⟨rfl, hb⟩; refine ⟨_, rfl, ?_⟩; have n0_ := Aside0.mk (below_step zb0 hb); clear HB; have HB := n0_; clear n0_; (try clear hb); (try clear hb2); (try clear hk); (try clear hi)))
     go_ret3
     exact ⟨zb6, zb0⟩
    ·rw [if_neg c7] at H
     exact absurd H zb45
   ·replace c6 := Bool.eq_false_iff.mpr c6
    subst c6
    replace H : ((broadsheetref13_Token.f kj1 a0).bind fun bt218 => (some (bt218.1, bt218.2, (bt218.1.toList != ([] : List UInt8))))) = some (r1, r2, r3) := by rw [if_neg (show ¬ (false = true) by decide)] at H; exact H
    replace H := Option.bind_eq_some_iff.mp H
    obtain ⟨⟨t218, t219⟩, A100, H⟩ := H
    replace H : (some (t218, t219, (t218.toList != ([] : List UInt8)))) = some (r1, r2, r3) := H
    have A10 := Aside0.mk A100
    clear A100
    simp only [Option.some.injEq, Prod.mk.injEq] at H
    obtain ⟨rfl, rfl, rfl⟩ := H
    go_wp2_with (first | ((with_reducible refine gate_callee (f := 46) rfl ?_); refine goesL_ (some 22) rfl rfl Tryz.func46 zb9 rfl #[.string a0] rfl zb2 ?_; (with_reducible refine (broadsheetref13_Token.calls kj1 a0 t218 t219 _ A10.out).mono ?_); rintro e w' ⟨rfl, ⟨nd, rfl⟩⟩; refine ⟨_, rfl, ?_⟩))
    go_ret3
    exact ⟨zb6, zb0⟩
mutual
def broadsheetref13_Params.l0 : Nat → ByteArray → List (S50) → Option ((List (S50)) × Bool)
  | 0, _, _ => none
  | k + 1, x0, x4 => (broadsheetref13_Skip.f k x0).bind fun t220 => (if t220.toList = ([] : List UInt8) then (some (x4, true)) else (if 0 < (t220.size : Int) then (if (bt t220 0) = 59 then (if 1 ≤ (t220.size : Int) then ((broadsheetref13_Skip.f k (t220.extract 1 t220.size)).bind fun t221 => ((broadsheetref13_Token.f k t221).bind fun bt222 => (if bt222.1.toList = ([] : List UInt8) then (broadsheetref13_Params.j1 k x4 bt222.1 bt222.2 true) else (if bt222.2.toList = ([] : List UInt8) then (broadsheetref13_Params.j1 k x4 bt222.1 bt222.2 true) else (if 0 < (bt222.2.size : Int) then (broadsheetref13_Params.j1 k x4 bt222.1 bt222.2 ((bt bt222.2 0) != 61)) else (none)))))) else (none)) else (some (([] : List (S50)), false))) else (none)))
def broadsheetref13_Params.j1 : Nat → List (S50) → ByteArray → ByteArray → Bool → Option ((List (S50)) × Bool)
  | 0, _, _, _, _ => none
  | k + 1, x4, x5, x6, x34 => if x34 = true then (some (([] : List (S50)), false)) else (if 1 ≤ (x6.size : Int) then ((broadsheetref13_value.f k (x6.extract 1 x6.size)).bind fun bt224 => (if bt224.2.2 = true then ((broadsheetref07_Lower.f k x5).bind fun t227 => (if x4.length < 4398046511104 then (broadsheetref13_Params.l0 k bt224.2.1 (x4 ++ [(⟨t227, bt224.1⟩ : S50)])) else (none))) else (some (([] : List (S50)), false)))) else (none))
end
def broadsheetref13_Params.f (k : Nat) (a0 : ByteArray) : Option ((List (S50)) × Bool) := broadsheetref13_Params.l0 k a0 ([] : List (S50))
set_option maxHeartbeats 8000000 in
set_option maxRecDepth 100000 in
theorem broadsheetref13_Params.calls (k : Nat) (a0 : ByteArray) (r1 : List (S50)) (r2 : Bool) (w : World) (h : broadsheetref13_Params.f k a0 = some (r1, r2)) :
  Calls Tryz.prog 56 #[.string a0] w fun e w' => ∃ v0_ : Value, e = .returned (.tuple #[v0_, .bool r2]) ∧ Kd.R k50 50 w' w.heap.size (fun _ => True) v0_ r1 ∧ Below w.heap.size w w' := by
 have hu50 := Tryz.underlying50
 have HB := Aside0.mk (Below.refl w.heap.size w)
 have H : (broadsheetref13_Params.l0 k a0 ([] : List (S50))) = some (r1, r2) := h
 clear h
 have H' := Aside0.mk H
 clear H
 go_enter Tryz.func56, Tryz.ntmps56
 go_wp2
 first | go_loopg [0, 4] k (fun kq v0 v4 w' => ∃ (x0_1 : ByteArray) (x4_1 : List (S50)), v0 = .string x0_1 ∧ Aside0 (broadsheetref13_Params.l0 kq x0_1 x4_1 = some (r1, r2)) ∧ Aside0 (kq ≤ k) ∧ Aside0 (Kd.R k50 50 w' w.heap.size (fun _ => True) v4 x4_1) ∧ Aside0 (Below w.heap.size w w')) | (go_simp; go_loopg [0, 4] k (fun kq v0 v4 w' => ∃ (x0_1 : ByteArray) (x4_1 : List (S50)), v0 = .string x0_1 ∧ Aside0 (broadsheetref13_Params.l0 kq x0_1 x4_1 = some (r1, r2)) ∧ Aside0 (kq ≤ k) ∧ Aside0 (Kd.R k50 50 w' w.heap.size (fun _ => True) v4 x4_1) ∧ Aside0 (Below w.heap.size w w')))
 case atStart => exact ⟨(a0), (([] : List (S50))), zb4, H', ⟨Nat.le_refl _⟩, ⟨by first | exact Kd.R_nil _ _ _ _ _ | exact Kd.N_nil _ _ _ _ _ | exact Kd.V_nil _ _ _ _ _ | exact Kd.Q_nil _ _ _ _ _ | exact Kd.S_nil _ _ _ _ _⟩, ⟨by repeat (first | (with_reducible first | exact HB.out | apply below_alloc | apply pw_below_drewN | apply below_drew1) | exact HB.out)⟩⟩
 case round =>
  clear H'
  obtain ⟨x0_1, x4_1, rfl, HA, HK1, HO_4, HB⟩ := hrel
  cases gk with
  | zero => exact absurd HA.out (by simp [broadsheetref13_Params.l0])
  | succ k1 =>
   have H := HA.out
   clear HA
   simp only [broadsheetref13_Params.l0] at H
   replace H := Option.bind_eq_some_iff.mp H
   obtain ⟨t220, A20, H⟩ := H
   replace H : (if t220.toList = ([] : List UInt8) then (some (x4_1, true)) else (if 0 < (t220.size : Int) then (if (bt t220 0) = 59 then (if 1 ≤ (t220.size : Int) then ((broadsheetref13_Skip.f k1 (t220.extract 1 t220.size)).bind fun t221 => ((broadsheetref13_Token.f k1 t221).bind fun bt222 => (if bt222.1.toList = ([] : List UInt8) then (broadsheetref13_Params.j1 k1 x4_1 bt222.1 bt222.2 true) else (if bt222.2.toList = ([] : List UInt8) then (broadsheetref13_Params.j1 k1 x4_1 bt222.1 bt222.2 true) else (if 0 < (bt222.2.size : Int) then (broadsheetref13_Params.j1 k1 x4_1 bt222.1 bt222.2 ((bt bt222.2 0) != 61)) else (none)))))) else (none)) else (some (([] : List (S50)), false))) else (none))) = some (r1, r2) := H
   have A2 := Aside0.mk A20
   clear A20
   by_cases c3 : t220.toList = ([] : List UInt8)
   ·rw [if_pos c3] at H
    have c3b0 : (t220.toList == ([] : List UInt8)) = true := beq_iff_eq.mpr c3
    have c3b1 : (t220.toList != ([] : List UInt8)) = false := bne_eq_false_iff_eq.mpr c3
    clear c3
    simp only [Option.some.injEq, Prod.mk.injEq] at H
    obtain ⟨rfl, rfl⟩ := H
    go_wp2_with (first | ((with_reducible refine gate_callee (f := 25) rfl ?_); refine goesL_ (some 10) rfl rfl Tryz.func25 zb9 rfl #[.string x0_1] rfl zb2 ?_; (with_reducible refine (broadsheetref13_Skip.calls k1 x0_1 t220 _ A2.out).mono ?_); rintro e w' ⟨rfl, ⟨nd, rfl⟩⟩; refine ⟨_, rfl, ?_⟩))
    go_ret2
    exact ⟨_, by first | rfl | (simp [errW_none, errW_some, bne_nil_] <;> rfl) | (simp [*, errW_none, errW_some] <;> rfl), by (with_reducible repeat (first | apply Kd.R_alloc | apply Kd.R_drewN | apply Kd.R_drew)); exact HO_4.out, zb0⟩
   ·rw [if_neg c3] at H
    have c3b0 : (t220.toList == ([] : List UInt8)) = false := beq_eq_false_iff_ne.mpr c3
    have c3b1 : (t220.toList != ([] : List UInt8)) = true := bne_iff_ne.mpr c3
    by_cases c4 : 0 < (t220.size : Int)
    ·rw [if_pos c4] at H
     have c4b0 : decide (0 < (t220.size : Int)) = true := decide_eq_true c4
     have c4b1 : decide (0 < t220.size) = true := decide_eq_true zb42
     clear c4
     by_cases c6 : (bt t220 0) = 59
     ·rw [if_pos c6] at H
      have c6b0 : ((bt t220 0) == 59) = true := beq_iff_eq.mpr c6
      have c6b1 : ((bt t220 0) != 59) = false := bne_eq_false_iff_eq.mpr c6
      clear c6
      by_cases c7 : 1 ≤ (t220.size : Int)
      ·rw [if_pos c7] at H
       have c7b0 := eq_true c7
       have c7b1 : decide (1 ≤ (t220.size : Int)) = true := decide_eq_true c7
       clear c7
       replace H := Option.bind_eq_some_iff.mp H
       obtain ⟨t221, A80, H⟩ := H
       replace H : ((broadsheetref13_Token.f k1 t221).bind fun bt222 => (if bt222.1.toList = ([] : List UInt8) then (broadsheetref13_Params.j1 k1 x4_1 bt222.1 bt222.2 true) else (if bt222.2.toList = ([] : List UInt8) then (broadsheetref13_Params.j1 k1 x4_1 bt222.1 bt222.2 true) else (if 0 < (bt222.2.size : Int) then (broadsheetref13_Params.j1 k1 x4_1 bt222.1 bt222.2 ((bt bt222.2 0) != 61)) else (none))))) = some (r1, r2) := H
       have A8 := Aside0.mk A80
       clear A80
       replace H := Option.bind_eq_some_iff.mp H
       obtain ⟨⟨t222, t223⟩, A90, H⟩ := H
       replace H : (if t222.toList = ([] : List UInt8) then (broadsheetref13_Params.j1 k1 x4_1 t222 t223 true) else (if t223.toList = ([] : List UInt8) then (broadsheetref13_Params.j1 k1 x4_1 t222 t223 true) else (if 0 < (t223.size : Int) then (broadsheetref13_Params.j1 k1 x4_1 t222 t223 ((bt t223 0) != 61)) else (none)))) = some (r1, r2) := H
       have A9 := Aside0.mk A90
       clear A90
       have HC10 := Aside0.mk H
       clear H
       go_upto_region 8 with (first | ((with_reducible refine gate_callee (f := 25) rfl ?_); refine goesL_ (some 10) rfl rfl Tryz.func25 zb9 rfl #[.string x0_1] rfl zb2 ?_; (with_reducible refine (broadsheetref13_Skip.calls k1 x0_1 t220 _ A2.out).mono ?_); rintro e w' ⟨rfl, ⟨nd, rfl⟩⟩; refine ⟨_, rfl, ?_⟩; have p5 : 0 ≤ (0 : Int) := zb42; have q5 : 0 < t220.size := (by have : (0 : Int) < (t220.size : Int) := of_decide_eq_true zb3; omega); have hx5 : ∀ h : 0 < t220.size, ((t220[0]'h).toNat : Int) = bt t220 0 := bt_at t220 0; clear p5; have qi5 : (0 < (t220.size : Int)) = True := eq_true (of_decide_eq_true zb3); replace q5 := eq_true q5) | ((with_reducible refine gate_callee (f := 25) rfl ?_); refine goesL_ (some 20) rfl rfl Tryz.func25 zb9 rfl #[.string (t220.extract 1 t220.size)] rfl zb2 ?_; (with_reducible refine (broadsheetref13_Skip.calls k1 (t220.extract 1 t220.size) t221 _ A8.out).mono ?_); rintro e w' ⟨rfl, ⟨nd, rfl⟩⟩; refine ⟨_, rfl, ?_⟩) | ((with_reducible refine gate_callee (f := 46) rfl ?_); refine goesL_ (some 21) rfl rfl Tryz.func46 zb9 rfl #[.string t221] rfl zb2 ?_; (with_reducible refine (broadsheetref13_Token.calls k1 t221 t222 t223 _ A9.out).mono ?_); rintro e w' ⟨rfl, ⟨nd, rfl⟩⟩; refine ⟨_, rfl, ?_⟩))
       (try simp only [Act.put, List.setIfInBounds_toArray, List.set_cons_zero, List.set_cons_succ])
       go_cut [34] (fun v34 wc => ∃ (kq : Nat) (x34_9 : Bool), v34 = .bool x34_9 ∧ Aside0 (broadsheetref13_Params.j1 kq x4_1 t222 t223 x34_9 = some (r1, r2)) ∧ Aside0 (kq ≤ k1) ∧ Aside0 (Kd.R k50 50 wc w.heap.size (fun _ => True) u4 x4_1) ∧ Aside0 (Below w.heap.size w wc))
       case first =>
        have H := HC10.out
        clear HC10
        by_cases c11 : t222.toList = ([] : List UInt8)
        ·rw [if_pos c11] at H
         have c11b0 : (t222.toList == ([] : List UInt8)) = true := beq_iff_eq.mpr c11
         have c11b1 : (t222.toList != ([] : List UInt8)) = false := bne_eq_false_iff_eq.mpr c11
         clear c11
         (first | rw [c11b0] | (simp only [i64_w, i32_w]; rw [c11b0]) | skip)
         have H' := Aside0.mk H
         clear H
         go_wp2
         go_meet
         case rel => exact ⟨_, (true), zb4, H', ⟨by have := HK1.out; first | omega | exact Nat.le_refl _⟩, ⟨by (with_reducible repeat (first | apply Kd.R_alloc | apply Kd.R_drewN | apply Kd.R_drew)); exact HO_4.out⟩, ⟨by repeat (first | (with_reducible first | exact HB.out | apply below_alloc | apply pw_below_drewN | apply below_drew1) | exact HB.out)⟩⟩
        ·rw [if_neg c11] at H
         have c11b0 : (t222.toList == ([] : List UInt8)) = false := beq_eq_false_iff_ne.mpr c11
         have c11b1 : (t222.toList != ([] : List UInt8)) = true := bne_iff_ne.mpr c11
         (first | rw [c11b0] | (simp only [i64_w, i32_w]; rw [c11b0]) | skip)
         by_cases c12 : t223.toList = ([] : List UInt8)
         ·rw [if_pos c12] at H
          have c12b0 : (t223.toList == ([] : List UInt8)) = true := beq_iff_eq.mpr c12
          have c12b1 : (t223.toList != ([] : List UInt8)) = false := bne_eq_false_iff_eq.mpr c12
          clear c12
          have H' := Aside0.mk H
          clear H
          go_wp2
          go_meet
          case rel => exact ⟨_, (true), zb4, H', ⟨by have := HK1.out; first | omega | exact Nat.le_refl _⟩, ⟨by (with_reducible repeat (first | apply Kd.R_alloc | apply Kd.R_drewN | apply Kd.R_drew)); exact HO_4.out⟩, ⟨by repeat (first | (with_reducible first | exact HB.out | apply below_alloc | apply pw_below_drewN | apply below_drew1) | exact HB.out)⟩⟩
         ·rw [if_neg c12] at H
          have c12b0 : (t223.toList == ([] : List UInt8)) = false := beq_eq_false_iff_ne.mpr c12
          have c12b1 : (t223.toList != ([] : List UInt8)) = true := bne_iff_ne.mpr c12
          by_cases c13 : 0 < (t223.size : Int)
          ·rw [if_pos c13] at H
           have c13b0 : decide (0 < (t223.size : Int)) = true := decide_eq_true c13
           have c13b1 : decide (0 < t223.size) = true := decide_eq_true zb42
           clear c13
           have H' := Aside0.mk H
           clear H
           have p14 : 0 ≤ (0 : Int) := zb42
           have q14 : 0 < t223.size := (by have : (0 : Int) < (t223.size : Int) := of_decide_eq_true zb3; omega)
           have hx14 : ∀ h : 0 < t223.size, ((t223[0]'h).toNat : Int) = bt t223 0 := bt_at t223 0
           clear p14
           have qi14 : (0 < (t223.size : Int)) = True := eq_true (of_decide_eq_true zb3)
           replace q14 := eq_true q14
           go_wp2
           go_meet
           case rel => exact ⟨_, (((bt t223 0) != 61)), zb4, H', ⟨by have := HK1.out; first | omega | exact Nat.le_refl _⟩, ⟨by (with_reducible repeat (first | apply Kd.R_alloc | apply Kd.R_drewN | apply Kd.R_drew)); exact HO_4.out⟩, ⟨by repeat (first | (with_reducible first | exact HB.out | apply below_alloc | apply pw_below_drewN | apply below_drew1) | exact HB.out)⟩⟩
          ·rw [if_neg c13] at H
           exact absurd H zb45
       case rest =>
        clear HC10
        try clear c1
        try clear p1
        try clear q1
        try clear hx1
        try clear qi1
        try clear c2
        try clear p2
        try clear c3
        try clear c3b0
        try clear c3b1
        try clear c4
        try clear c4b0
        try clear c4b1
        try clear c5
        try clear p5
        try clear q5
        try clear hx5
        try clear qi5
        try clear c6
        try clear c6b0
        try clear c6b1
        try clear c7
        try clear c7b0
        try clear c7b1
        try clear c11
        try clear c11b0
        try clear c11b1
        try clear c12
        try clear c12b0
        try clear c12b1
        try clear c13
        try clear c13b0
        try clear c13b1
        try clear p14
        try clear q14
        try clear hx14
        try clear qi14
        try clear p14
        try clear p5
        try clear q14
        try clear q5
        obtain ⟨kq, x34_9, rfl, HA, HJ9, HO_4, HB⟩ := hcut
        cases kq with
        | zero => exact absurd HA.out (by simp [broadsheetref13_Params.j1])
        | succ kj9 =>
         have H := HA.out
         clear HA
         simp only [broadsheetref13_Params.j1] at H
         by_cases c15 : x34_9 = true
         ·subst c15
          replace H : (some (([] : List (S50)), false)) = some (r1, r2) := by rw [if_pos rfl] at H; exact H
          simp only [Option.some.injEq, Prod.mk.injEq] at H
          obtain ⟨rfl, rfl⟩ := H
          go_wp2
          go_ret2
          exact ⟨_, by first | rfl | (simp [errW_none, errW_some, bne_nil_] <;> rfl) | (simp [*, errW_none, errW_some] <;> rfl), by first | exact Kd.R_nil _ _ _ _ _ | exact Kd.N_nil _ _ _ _ _ | exact Kd.V_nil _ _ _ _ _ | exact Kd.Q_nil _ _ _ _ _ | exact Kd.S_nil _ _ _ _ _, zb0⟩
         ·replace c15 := Bool.eq_false_iff.mpr c15
          subst c15
          replace H : (if 1 ≤ (t223.size : Int) then ((broadsheetref13_value.f kj9 (t223.extract 1 t223.size)).bind fun bt224 => (if bt224.2.2 = true then ((broadsheetref07_Lower.f kj9 t222).bind fun t227 => (if x4_1.length < 4398046511104 then (broadsheetref13_Params.l0 kj9 bt224.2.1 (x4_1 ++ [(⟨t227, bt224.1⟩ : S50)])) else (none))) else (some (([] : List (S50)), false)))) else (none)) = some (r1, r2) := by rw [if_neg (show ¬ (false = true) by decide)] at H; exact H
          by_cases c16 : 1 ≤ (t223.size : Int)
          ·rw [if_pos c16] at H
           have c16b0 := eq_true c16
           have c16b1 : decide (1 ≤ (t223.size : Int)) = true := decide_eq_true c16
           clear c16
           replace H := Option.bind_eq_some_iff.mp H
           obtain ⟨⟨t224, t225, t226⟩, A170, H⟩ := H
           replace H : (if t226 = true then ((broadsheetref07_Lower.f kj9 t222).bind fun t227 => (if x4_1.length < 4398046511104 then (broadsheetref13_Params.l0 kj9 t225 (x4_1 ++ [(⟨t227, t224⟩ : S50)])) else (none))) else (some (([] : List (S50)), false))) = some (r1, r2) := H
           have A17 := Aside0.mk A170
           clear A170
           by_cases c18 : t226 = true
           ·subst c18
            replace H : ((broadsheetref07_Lower.f kj9 t222).bind fun t227 => (if x4_1.length < 4398046511104 then (broadsheetref13_Params.l0 kj9 t225 (x4_1 ++ [(⟨t227, t224⟩ : S50)])) else (none))) = some (r1, r2) := by rw [if_pos rfl] at H; exact H
            replace H := Option.bind_eq_some_iff.mp H
            obtain ⟨t227, A190, H⟩ := H
            replace H : (if x4_1.length < 4398046511104 then (broadsheetref13_Params.l0 kj9 t225 (x4_1 ++ [(⟨t227, t224⟩ : S50)])) else (none)) = some (r1, r2) := H
            have A19 := Aside0.mk A190
            clear A190
            by_cases c20 : x4_1.length < 4398046511104
            ·rw [if_pos c20] at H
             have LMc20 := Aside0.mk c20
             clear c20
             obtain ⟨y228, hy228⟩ : ∃ y_ : List (S50), y_ = (x4_1 ++ [(⟨t227, t224⟩ : S50)]) := ⟨_, rfl⟩
             replace H : (broadsheetref13_Params.l0 kj9 t225 y228) = some (r1, r2) := by first | (rw [hy228]; with_reducible exact H) | (have H2_ := (Option.bind_some _ _).symm.trans H; rw [hy228]; with_reducible exact H2_) | (have H2_ := (Option.bind_some _ _).symm.trans H; with_reducible exact H2_) | with_reducible exact H | (rw [hy228]; exact H) | exact H
             have Ny228 := Aside0.mk hy228
             clear hy228
             have H' := Aside0.mk H
             clear H
             go_wp2_with (first | ((with_reducible refine gate_callee (f := 73) rfl ?_); refine goesL_ (some 38) rfl rfl Tryz.func73 zb9 rfl #[.string (t223.extract 1 t223.size)] rfl zb2 ?_; (with_reducible refine (broadsheetref13_value.calls kj9 (t223.extract 1 t223.size) t224 t225 true _ A17.out).mono ?_); rintro e w21 ⟨rfl, hb⟩; refine ⟨_, rfl, ?_⟩; have n0_ := Aside0.mk (Kd.R_below zb50 hb); have n1_ := Aside0.mk (below_step zb0 hb); clear HO_4; clear HB; have HO_4 := n0_; have HB := n1_; clear n0_ n1_; (try clear hb); (try clear hb2); (try clear hk); (try clear hi)) | ((with_reducible refine gate_callee (f := 57) rfl ?_); refine goesL_ (some 46) rfl rfl Tryz.func57 zb9 rfl #[.string t222] rfl zb2 ?_; (with_reducible refine (broadsheetref07_Lower.calls kj9 t222 t227 _ A19.out).mono ?_); rintro e w22 ⟨rfl, hb⟩; refine ⟨_, rfl, ?_⟩; have n0_ := Aside0.mk (Kd.R_below zb50 hb); have n1_ := Aside0.mk (below_step zb0 hb); clear HO_4; clear HB; have HO_4 := n0_; have HB := n1_; clear n0_ n1_; (try clear hb); (try clear hb2); (try clear hk); (try clear hi)) | ((with_reducible refine gate_builtin (b := .append) (xs := #[.tmp 44, .tmp 49]) rfl ?_); at_builtin; refine Kd.R_append k50 (w0 := w) w.heap.size rfl (.tmp 44) (.tmp 49) 38 50 (.agg #[(.string ⟨#[]⟩), (.string ⟨#[]⟩)]) 32 rfl Tryz.underlying38 info50 rfl zb47 zb42 u4 x4_1 (⟨t227, t224⟩ : S50) [.string t227, .string t224] (fun _ => True) (fun _ => False) rfl rfl ?aP (fun _ hk => hk.elim) ?aF ?aO ?aB ?aS ?aL ?_; (case aP => exact k50_mkM _ _ _ (⟨t227, t224⟩ : S50)); (case aB => exact zb0); (case aF => exact (fun _ _ => trivial)); (case aO => exact zb50); (case aS => exact (below_size zb0)); (case aL => have := LMc20.out; omega); intro v229 w23 ho hb hg hat; rw [← Ny228.out] at ho; have n0_ := Aside0.mk (hb); have n1_ := Aside0.mk (ho); clear HB; clear HO_4; have HB := n0_; have HO230 := n1_; clear n0_ n1_; clear ho hb hg hat))
             go_roundg kj9
             case measure => have := HK1.out; have := HJ9.out; omega
             case rel => exact ⟨(t225), (y228), zb4, H', ⟨by have := HK1.out; have := HJ9.out; omega⟩, ⟨by (with_reducible repeat (first | apply Kd.R_alloc | apply Kd.R_drewN | apply Kd.R_drew)); exact HO230.out⟩, ⟨by repeat (first | (with_reducible first | exact HB.out | apply below_alloc | apply pw_below_drewN | apply below_drew1) | exact HB.out)⟩⟩
            ·rw [if_neg c20] at H
             exact absurd H zb45
           ·replace c18 := Bool.eq_false_iff.mpr c18
            subst c18
            replace H : (some (([] : List (S50)), false)) = some (r1, r2) := by rw [if_neg (show ¬ (false = true) by decide)] at H; exact H
            simp only [Option.some.injEq, Prod.mk.injEq] at H
            obtain ⟨rfl, rfl⟩ := H
            go_wp2_with (first | ((with_reducible refine gate_callee (f := 73) rfl ?_); refine goesL_ (some 38) rfl rfl Tryz.func73 zb9 rfl #[.string (t223.extract 1 t223.size)] rfl zb2 ?_; (with_reducible refine (broadsheetref13_value.calls kj9 (t223.extract 1 t223.size) t224 t225 false _ A17.out).mono ?_); rintro e w24 ⟨rfl, hb⟩; refine ⟨_, rfl, ?_⟩; have n0_ := Aside0.mk (Kd.R_below zb50 hb); have n1_ := Aside0.mk (below_step zb0 hb); clear HO_4; clear HB; have HO_4 := n0_; have HB := n1_; clear n0_ n1_; (try clear hb); (try clear hb2); (try clear hk); (try clear hi)))
            go_ret2
            exact ⟨_, by first | rfl | (simp [errW_none, errW_some, bne_nil_] <;> rfl) | (simp [*, errW_none, errW_some] <;> rfl), by first | exact Kd.R_nil _ _ _ _ _ | exact Kd.N_nil _ _ _ _ _ | exact Kd.V_nil _ _ _ _ _ | exact Kd.Q_nil _ _ _ _ _ | exact Kd.S_nil _ _ _ _ _, zb0⟩
          ·rw [if_neg c16] at H
           exact absurd H zb45
      ·rw [if_neg c7] at H
       exact absurd H zb45
     ·rw [if_neg c6] at H
      have c6b0 : ((bt t220 0) == 59) = false := beq_eq_false_iff_ne.mpr c6
      have c6b1 : ((bt t220 0) != 59) = true := bne_iff_ne.mpr c6
      simp only [Option.some.injEq, Prod.mk.injEq] at H
      obtain ⟨rfl, rfl⟩ := H
      go_wp2_with (first | ((with_reducible refine gate_callee (f := 25) rfl ?_); refine goesL_ (some 10) rfl rfl Tryz.func25 zb9 rfl #[.string x0_1] rfl zb2 ?_; (with_reducible refine (broadsheetref13_Skip.calls k1 x0_1 t220 _ A2.out).mono ?_); rintro e w' ⟨rfl, ⟨nd, rfl⟩⟩; refine ⟨_, rfl, ?_⟩; have p5 : 0 ≤ (0 : Int) := zb42; have q5 : 0 < t220.size := (by have : (0 : Int) < (t220.size : Int) := of_decide_eq_true zb3; omega); have hx5 : ∀ h : 0 < t220.size, ((t220[0]'h).toNat : Int) = bt t220 0 := bt_at t220 0; clear p5; have qi5 : (0 < (t220.size : Int)) = True := eq_true (of_decide_eq_true zb3); replace q5 := eq_true q5))
      go_ret2
      exact ⟨_, by first | rfl | (simp [errW_none, errW_some, bne_nil_] <;> rfl) | (simp [*, errW_none, errW_some] <;> rfl), by first | exact Kd.R_nil _ _ _ _ _ | exact Kd.N_nil _ _ _ _ _ | exact Kd.V_nil _ _ _ _ _ | exact Kd.Q_nil _ _ _ _ _ | exact Kd.S_nil _ _ _ _ _, zb0⟩
    ·rw [if_neg c4] at H
     exact absurd H zb45
end Go.Proofs.YtghfbhobpodoeaaGreatDoor.P
/- SpRpa -/
namespace Go.Proofs.YtghfbhobpodoeaaGreatDoor.Sp
open Go Go.RowKit Go.Proofs.YtghfbhobpodoeaaGreatDoorW.PrintWords Go.Proofs.YtghfbhobpodoeaaGreatDoorW.PrintLast Go.Proofs.YtghfbhobpodoeaaGreatDoor.O Go.Proofs.YtghfbhobpodoeaaGreatDoor.P
set_option linter.unusedVariables false
set_option linter.unusedSimpArgs false
theorem rtb_all : ∀ a : Fin 256, broadsheetref13_TokenByte.f 1 ((UInt8.ofNat a.val).toNat : Int) = some (tokB (UInt8.ofNat a.val)) := by decide +kernel
theorem rtbF (c : UInt8) (k : Nat) (hk : 1 ≤ k) : broadsheetref13_TokenByte.f k (c.toNat : Int) = some (tokB c) := by
  obtain ⟨k, rfl⟩ : ∃ k', k = k' + 1 := ⟨k - 1, by omega⟩
  obtain ⟨a, rfl⟩ := u8_fin c
  rw [← rtb_all a]
  rfl
theorem rtok_l0 (s : L) (hs : s.length ≤ 1000000000000) : ∀ (d k i : Nat), i + d = s.length → d + 1 < k →
    broadsheetref13_Token.l0 k (mk s) i = some (mk (s.take (i + ((s.drop i).takeWhile tokB).length)), mk (s.drop (i + ((s.drop i).takeWhile tokB).length))) := by
  intro d
  induction d with
  | zero =>
    intro k i hi hk
    obtain ⟨k, rfl⟩ : ∃ k', k = k' + 1 := ⟨k - 1, by omega⟩
    rw [broadsheetref13_Token.l0, if_neg (by rw [mk_size]; omega), if_pos (by omega), if_pos (by rw [mk_size]; omega), List.drop_eq_nil_of_le (by omega)]
    simp only [Int.toNat_natCast, List.takeWhile_nil, List.length_nil, Nat.add_zero, ext_to, ext_from]
  | succ d ih =>
    intro k i hi hk
    obtain ⟨k, rfl⟩ : ∃ k', k = k' + 1 := ⟨k - 1, by omega⟩
    obtain ⟨b, e1, e2⟩ := mk_bt s i (by omega)
    rw [broadsheetref13_Token.l0, if_pos (by rw [mk_size]; omega), if_pos (by omega), e2, rtbF b k (by omega)]
    simp only [Option.bind_some]
    by_cases ht : tokB b = true
    · rw [if_pos ht, w1 i (by omega), ih k (i + 1) (by omega) (by omega), e1, List.takeWhile_cons_of_pos ht]
      simp only [List.length_cons]
      rw [show i + 1 + ((s.drop (i + 1)).takeWhile tokB).length = i + (((s.drop (i + 1)).takeWhile tokB).length + 1) by omega]
    · rw [if_neg ht, if_pos (by rw [mk_size]; omega), e1, List.takeWhile_cons_of_neg ht]
      simp only [Int.toNat_natCast, List.length_nil, Nat.add_zero, ext_to, ext_from]
theorem rtokF (s : L) (k : Nat) (hs : s.length ≤ 1000000000000) (hk : s.length + 1 < k) : broadsheetref13_Token.f k (mk s) = some (mk (tok s).1, mk (tok s).2) := by
  unfold broadsheetref13_Token.f
  have := rtok_l0 s hs s.length k 0 (by omega) hk
  simp only [List.drop_zero, Nat.zero_add] at this
  rw [show (0 : Int) = ((0 : Nat) : Int) from rfl, this, take_tw, drop_tw]
  rfl
def nums (l : L) : List Int := l.map fun b => (b.toNat : Int)
theorem nums_str (l : L) : strOfNums (nums l) = mk l := by
  unfold strOfNums nums mk
  rw [List.map_map]
  have e : ((fun n : Int => UInt8.ofNat n.toNat) ∘ fun b : UInt8 => (b.toNat : Int)) = id := by
    funext b
    simp
  rw [e, List.map_id]
theorem nums_snoc (l : L) (b : UInt8) : nums l ++ [(b.toNat : Int)] = nums (l ++ [b]) := by simp [nums]
theorem nums_len (l : L) : (nums l).length = l.length := by simp [nums]
theorem lowB_int (b : UInt8) (h : 65 ≤ b.toNat ∧ b.toNat ≤ 90) : (((b.toNat : Int) + 32) % 256) = ((lowB b).toNat : Int) := by
  unfold lowB
  rw [if_pos h, UInt8.toNat_ofNat']
  omega
theorem rlow_l0 (s : L) (hs : s.length ≤ 1000000000000) : ∀ (d k i : Nat) (acc : L), i + d = s.length → d < k → acc.length ≤ i → broadsheetref07_Lower.l0 k (mk s) (nums acc) i = some (mk (acc ++ low (s.drop i))) := by
  intro d
  induction d with
  | zero =>
    intro k i acc hi hk ha
    obtain ⟨k, rfl⟩ : ∃ k', k = k' + 1 := ⟨k - 1, by omega⟩
    rw [broadsheetref07_Lower.l0, if_neg (by rw [mk_size]; omega), List.drop_eq_nil_of_le (by omega), nums_str]
    simp [low]
  | succ d ih =>
    intro k i acc hi hk ha
    obtain ⟨k, rfl⟩ : ∃ k', k = k' + 1 := ⟨k - 1, by omega⟩
    obtain ⟨b, e1, e2⟩ := mk_bt s i (by omega)
    have hlen : (nums acc).length < 140737488355328 := by rw [nums_len]; omega
    rw [broadsheetref07_Lower.l0, if_pos (by rw [mk_size]; omega), if_pos (by omega), e2, w1 i (by omega)]
    have hfin : ∀ x : UInt8, x = lowB b → broadsheetref07_Lower.l0 k (mk s) (nums acc ++ [(x.toNat : Int)]) ((i + 1 : Nat) : Int) = some (mk (acc ++ low (s.drop i))) := fun x hx => by
      rw [nums_snoc, ih k (i + 1) (acc ++ [x]) (by omega) (by omega) (by simp; omega), e1, hx]
      simp [low]
    by_cases h1 : (b.toNat : Int) ≥ 65
    · rw [if_pos h1]
      by_cases h2 : (b.toNat : Int) ≤ 90
      · rw [if_pos h2, if_pos hlen, lowB_int b (by omega)]
        exact hfin _ rfl
      · rw [if_neg h2, if_pos hlen]
        exact hfin b (by unfold lowB; rw [if_neg (by omega)])
    · rw [if_neg h1, if_pos hlen]
      exact hfin b (by unfold lowB; rw [if_neg (by omega)])
theorem rlowF (s : L) (k : Nat) (hs : s.length ≤ 1000000000000) (hk : s.length < k) : broadsheetref07_Lower.f k (mk s) = some (mk (low s)) := by
  have := rlow_l0 s hs s.length k 0 [] (by omega) hk (by simp)
  rwa [List.nil_append, List.drop_zero] at this
theorem ctl_cases (b : UInt8) {α : Type} (x y : α) : (if (b.toNat : Int) < 32 then (if (b.toNat : Int) = 9 then (if (b.toNat : Int) = 127 then x else y) else x) else (if (b.toNat : Int) = 127 then x else y)) = if ctl b = true then x else y := by
  have h9 : ((b.toNat : Int) = 9) ↔ b = 9 := u8i b 9 (by omega)
  have h127 : ((b.toNat : Int) = 127) ↔ b = 127 := u8i b 127 (by omega)
  unfold ctl
  by_cases h1 : (b.toNat : Int) < 32
  · have h1' : b.toNat < 32 := by omega
    rw [if_pos h1]
    by_cases h2 : b = 9
    · rw [if_pos (h9.2 h2), if_neg (by rw [h9.2 h2]; decide), if_neg (by simp [h2])]
    · rw [if_neg (fun h => h2 (h9.1 h)), if_pos (by simp [h1', h2])]
  · have h1' : ¬ b.toNat < 32 := by omega
    rw [if_neg h1]
    by_cases h2 : b = 127
    · rw [if_pos (h127.2 h2), if_pos (by simp [h2])]
    · rw [if_neg (fun h => h2 (h127.1 h)), if_neg (by simp [h1', h2])]
theorem rquot_l0 (s : L) (hs : s.length ≤ 1000000000000) : ∀ (d k i : Nat) (acc : L), i + d = s.length → d < k → acc.length ≤ i →
    broadsheetref13_Quoted.l0 k (mk s) (nums acc) i = some (match quoted (s.drop i) with
      | some p => (mk (acc ++ p.1), mk p.2, true)
      | none => (mk [], mk [], false)) := by
  intro d
  induction d using Nat.strongRecOn with
  | _ d ih =>
    intro k i acc hi hk ha
    obtain ⟨k, rfl⟩ : ∃ k', k = k' + 1 := ⟨k - 1, by omega⟩
    by_cases hd : d = 0
    · rw [broadsheetref13_Quoted.l0, if_neg (by rw [mk_size]; omega), List.drop_eq_nil_of_le (by omega)]
      rfl
    obtain ⟨b, e1, e2⟩ := mk_bt s i (by omega)
    have hlen : (nums acc).length < 140737488355328 := by rw [nums_len]; omega
    have h34 : ((b.toNat : Int) = 34) ↔ b = 34 := u8i b 34 (by omega)
    have h92 : ((b.toNat : Int) = 92) ↔ b = 92 := u8i b 92 (by omega)
    rw [broadsheetref13_Quoted.l0, if_pos (by rw [mk_size]; omega), if_pos (by omega), e2, w1 i (by omega), e1, quoted_cons]
    by_cases c34 : b = 34
    · rw [if_pos (h34.2 c34), if_pos (by omega), if_pos (by rw [mk_size]; omega), if_pos c34, nums_str]
      simp only [Int.toNat_natCast, ext_from, List.append_nil]
    rw [if_neg (fun h => c34 (h34.1 h)), if_neg c34]
    by_cases c92 : b = 92
    · rw [if_pos (h92.2 c92), if_pos c92]
      by_cases hend : i + 1 = s.length
      · rw [if_pos (by rw [mk_size]; omega), List.drop_eq_nil_of_le (by omega)]
        rfl
      · rw [if_neg (by rw [mk_size]; omega), if_pos (by omega), if_pos (by rw [mk_size]; omega)]
        obtain ⟨b', e3, e4⟩ := mk_bt s (i + 1) (by omega)
        rw [e4, ctl_cases, e3]
        simp only
        by_cases hc : ctl b' = true
        · rw [if_pos hc, if_pos hc]
          rfl
        · rw [if_neg hc, if_neg hc, if_pos hlen, nums_snoc, w1 (i + 1) (by omega), ih (d - 2) (by omega) k (i + 1 + 1) (acc ++ [b']) (by omega) (by omega) (by simp; omega)]
          cases quoted (s.drop (i + 1 + 1)) with
          | none => rfl
          | some p => simp
    · rw [if_neg (fun h => c92 (h92.1 h)), if_neg c92, ctl_cases]
      by_cases hc : ctl b = true
      · rw [if_pos hc, if_pos hc]
        rfl
      · rw [if_neg hc, if_neg hc, if_pos hlen, nums_snoc, ih (d - 1) (by omega) k (i + 1) (acc ++ [b]) (by omega) (by omega) (by simp; omega)]
        cases quoted (s.drop (i + 1)) with
        | none => rfl
        | some p => simp
theorem rquotF (s : L) (k : Nat) (hs : s.length ≤ 1000000000000) (hk : s.length < k) : broadsheetref13_Quoted.f k (mk s) = some (match quoted s with
      | some p => (mk p.1, mk p.2, true)
      | none => (mk [], mk [], false)) := by
  have := rquot_l0 s hs s.length k 0 [] (by omega) hk (by simp)
  rw [List.drop_zero] at this
  exact this
theorem rvalueF (s : L) (k : Nat) (hs : s.length ≤ 1000000000000) (hk : s.length + 3 < k) : ∃ q, broadsheetref13_value.f k (mk s) = some q ∧ (∀ v r, value s = some (v, r) → q = (mk v, mk r, true)) ∧ (value s = none → q.2.2 = false) := by
  obtain ⟨k, rfl⟩ : ∃ k', k = k' + 1 := ⟨k - 1, by omega⟩
  have htok : ∀ (hv : value s = if (tok s).1 = [] then none else some (tok s)), ∃ q, broadsheetref13_value.j0 (k + 1) (mk s) false = some q ∧ (∀ v r, value s = some (v, r) → q = (mk v, mk r, true)) ∧ (value s = none → q.2.2 = false) := fun hv => by
    rw [broadsheetref13_value.j0, if_neg (by decide), rtokF s k hs (by omega), hv]
    simp only [Option.bind_some, tl_mk]
    by_cases h2 : (tok s).1 = []
    · rw [if_pos h2, h2]
      exact ⟨_, rfl, by simp, by simp⟩
    · rw [if_neg h2]
      refine ⟨_, rfl, ?_, by simp⟩
      rintro v r h
      have e := Option.some.inj h
      rw [e] at h2 ⊢
      simp at h2
      simp [h2]
  unfold broadsheetref13_value.f
  rw [tl_mk]
  cases s with
  | nil =>
    rw [if_pos rfl]
    exact htok (by unfold value; rw [if_neg (by simp)])
  | cons c r =>
    rw [if_neg (by simp), if_pos (by rw [mk_size]; simp only [List.length_cons]; omega), bt_head]
    have h34 : ((c.toNat : Int) = 34) ↔ c = 34 := u8i c 34 (by omega)
    by_cases c34 : c = 34
    · have hb : ((c.toNat : Int) == 34) = true := by rw [beq_iff_eq]; exact h34.2 c34
      have hv : value (c :: r) = quoted r := by unfold value; rw [if_pos (by simp [c34])]; rfl
      rw [hb, broadsheetref13_value.j0, if_pos rfl, if_pos (by rw [mk_size]; simp only [List.length_cons]; omega), ext1, hv]
      simp only [List.length_cons] at hs hk
      rw [rquotF r k (by omega) (by omega)]
      simp only [Option.bind_some]
      cases e : quoted r with
      | none => exact ⟨_, rfl, by simp, by simp⟩
      | some p => exact ⟨_, rfl, by rintro v r h; obtain rfl := Option.some.inj h; rfl, by simp⟩
    · have hb : ((c.toNat : Int) == 34) = false := by
        rw [Bool.eq_false_iff]
        intro h
        exact c34 (h34.1 (by simpa using h))
      rw [hb]
      exact htok (by unfold value; rw [if_neg (by simp [c34])])
theorem rparams_l0 : ∀ (d f k : Nat) (s : L) (acc : List (L × L)), s.length ≤ d → d < f → 3 * d + 10 ≤ k → acc.length + s.length ≤ 1000000000000 →
    ∃ q, broadsheetref13_Params.l0 k (mk s) (pairsB acc) = some q ∧ parsIs (params f s) acc q := by
  intro d
  induction d with
  | zero =>
    intro f k s acc hs hf hk ha
    obtain ⟨k, rfl⟩ : ∃ k', k = k' + 1 := ⟨k - 1, by omega⟩
    obtain ⟨f, rfl⟩ : ∃ f', f = f' + 1 := ⟨f - 1, by omega⟩
    obtain rfl : s = [] := List.eq_nil_of_length_eq_zero (by omega)
    rw [broadsheetref13_Params.l0, rskipF [] k (by simp; omega)]
    simp only [Option.bind_some, tl_mk]
    rw [if_pos (show skip [] = [] from rfl)]
    exact ⟨_, rfl, by simp [params, skip, parsIs]⟩
  | succ d ih =>
    intro f k s acc hs hf hk ha
    obtain ⟨k, rfl⟩ : ∃ k', k = k' + 2 := ⟨k - 2, by omega⟩
    obtain ⟨f, rfl⟩ : ∃ f', f = f' + 1 := ⟨f - 1, by omega⟩
    have hsk := skip_len s
    rw [broadsheetref13_Params.l0, params, rskipF s (k + 1) (by omega)]
    simp only [Option.bind_some, tl_mk]
    generalize skip s = u at *
    cases u with
    | nil =>
      rw [if_pos (show ([] : L) = [] from rfl), if_pos (show ([] : L) = [] from rfl)]
      exact ⟨_, rfl, by simp [parsIs]⟩
    | cons c r =>
      simp only [List.length_cons] at hsk
      have h59 : ((c.toNat : Int) = 59) ↔ c = 59 := u8i c 59 (by omega)
      rw [if_neg (show ¬ (c :: r = []) by simp), if_neg (show ¬ (c :: r = []) by simp), if_pos (by rw [mk_size]; simp only [List.length_cons]; omega), bt_head]
      by_cases c59 : c = 59
      · rw [if_pos (h59.2 c59), if_neg (show ¬ ((c :: r).head? ≠ some 59) by simp [c59]), if_pos (by rw [mk_size]; simp only [List.length_cons]; omega), ext1, rskipF r (k + 1) (by omega)]
        simp only [Option.bind_some, List.tail_cons]
        have l2 := skip_len r
        rw [rtokF (skip r) (k + 1) (by omega) (by omega)]
        simp only [Option.bind_some, tl_mk]
        have l3 := tok_len (skip r)
        obtain ⟨n, t, hnt⟩ : ∃ n t, tok (skip r) = (n, t) := ⟨_, _, rfl⟩
        simp only [hnt] at l3 ⊢
        by_cases h2 : n = []
        · rw [if_pos h2, if_pos h2, broadsheetref13_Params.j1, if_pos rfl]
          exact ⟨_, rfl, by simp [parsIs]⟩
        rw [if_neg h2, if_neg h2]
        cases t with
        | nil =>
          rw [if_pos rfl, broadsheetref13_Params.j1, if_pos rfl, if_pos (show ([] : L).head? ≠ some 61 by simp)]
          exact ⟨_, rfl, by simp [parsIs]⟩
        | cons e t =>
          simp only [List.length_cons] at l3
          have h61 : ((e.toNat : Int) = 61) ↔ e = 61 := u8i e 61 (by omega)
          rw [if_neg (show ¬ (e :: t = []) by simp), if_pos (by rw [mk_size]; simp only [List.length_cons]; omega), bt_head, broadsheetref13_Params.j1]
          by_cases c61 : e = 61
          · have hb : ((e.toNat : Int) != 61) = false := by simp [bne, h61.2 c61]
            rw [hb, if_neg (by decide), if_pos (by rw [mk_size]; simp only [List.length_cons]; omega), ext1, if_neg (show ¬ ((e :: t).head? ≠ some 61) by simp [c61])]
            simp only [List.tail_cons]
            obtain ⟨q, hq, hy, hn⟩ := rvalueF t k (by omega) (by omega)
            rw [hq]
            simp only [Option.bind_some]
            cases hv : value t with
            | none =>
              rw [hn hv, if_neg (by decide)]
              exact ⟨_, rfl, by simp [parsIs]⟩
            | some p =>
              obtain ⟨v, r'⟩ := p
              have hq2 := hy v r' hv
              subst hq2
              have l5 := value_len _ _ _ hv
              simp only [if_true]
              rw [rlowF n k (by omega) (by omega)]
              simp only [Option.bind_some]
              rw [if_pos (by rw [pairsB_len]; omega)]
              obtain ⟨q, hq, hp⟩ := ih f k r' (acc ++ [(low n, v)]) (by omega) (by omega) (by omega) (by simp only [List.length_append, List.length_singleton]; omega)
              refine ⟨q, ?_, ?_⟩
              · rw [pairsB_app] at hq
                exact hq
              · unfold parsIs at hp ⊢
                cases e : params f r' with
                | none => rw [e] at hp; exact hp
                | some l =>
                  rw [e] at hp
                  simp only [Option.map_some] at hp ⊢
                  rw [hp]
                  simp
          · have hb : ((e.toNat : Int) != 61) = true := by
              rw [bne_iff_ne]
              exact fun h => c61 (h61.1 h)
            rw [hb, if_pos rfl, if_pos (show (e :: t).head? ≠ some 61 by simpa using c61)]
            exact ⟨_, rfl, by simp [parsIs]⟩
      · rw [if_neg (fun h => c59 (h59.1 h)), if_pos (show (c :: r).head? ≠ some 59 by simpa using c59)]
        exact ⟨_, rfl, by simp [parsIs]⟩
theorem rparamsF (s : L) (k : Nat) (hs : s.length ≤ 100000000000) (hk : 3 * s.length + 10 ≤ k) : ∃ q, broadsheetref13_Params.f k (mk s) = some q ∧ parsIs (pars s) [] q := by
  unfold broadsheetref13_Params.f
  exact rparams_l0 s.length (s.length + 1) k s [] (Nat.le_refl _) (by omega) hk (by simp; omega)
end Go.Proofs.YtghfbhobpodoeaaGreatDoor.Sp
/- Px26 -/
namespace Go.Proofs.YtghfbhobpodoeaaGreatDoor.P
open Go.Proofs.YtghfbhobpodoeaaGreatDoor.B
open Go.RowKit Go.Proofs.YtghfbhobpodoeaaGreatDoorW.PrintWords Go.Proofs.YtghfbhobpodoeaaGreatDoorW.PrintLast Go.Proofs.YtghfbhobpodoeaaGreatDoorW.PrintMore
attribute [local go_sem] run_store_float str_leq str_gtr str_geq max2_int min2_int max_two min_two max_three min_three max_four min_four
set_option linter.unusedVariables false
set_option linter.unusedSimpArgs false
mutual
def broadsheetref13_Parse.j0 : Nat → ByteArray → ByteArray → Bool → Option (ByteArray × ByteArray × (List (S50)) × Int)
  | 0, _, _, _ => none
  | k + 1, x4, x5, x25 => if x25 = true then (some ((⟨#[]⟩ : ByteArray), (⟨#[]⟩ : ByteArray), ([] : List (S50)), 130)) else (if 1 ≤ (x5.size : Int) then ((broadsheetref13_Token.f k (x5.extract 1 x5.size)).bind fun bt235 => ((broadsheetref13_Params.f k bt235.2).bind fun bt237 => (if bt235.1.toList = ([] : List UInt8) then (broadsheetref13_Parse.j1 k x4 bt235.1 bt237.1 true) else (if bt237.2 = true then (if x4.toList = ([42] : List UInt8) then (broadsheetref13_Parse.j1 k x4 bt235.1 bt237.1 (bt235.1.toList != ([42] : List UInt8))) else (broadsheetref13_Parse.j1 k x4 bt235.1 bt237.1 false)) else (broadsheetref13_Parse.j1 k x4 bt235.1 bt237.1 true))))) else (none))
def broadsheetref13_Parse.j1 : Nat → ByteArray → ByteArray → List (S50) → Bool → Option (ByteArray × ByteArray × (List (S50)) × Int)
  | 0, _, _, _, _ => none
  | k + 1, x4, x6, x7, x51 => if x51 = true then (some ((⟨#[]⟩ : ByteArray), (⟨#[]⟩ : ByteArray), ([] : List (S50)), 130)) else ((broadsheetref07_Lower.f k x4).bind fun t241 => ((broadsheetref07_Lower.f k x6).bind fun t242 => (some (t241, t242, x7, 0))))
end
def broadsheetref13_Parse.f (k : Nat) (a0 : ByteArray) : Option (ByteArray × ByteArray × (List (S50)) × Int) := (broadsheetref13_Skip.f k a0).bind fun t232 => ((broadsheetref13_Token.f k t232).bind fun bt233 => (if bt233.1.toList = ([] : List UInt8) then (broadsheetref13_Parse.j0 k bt233.1 bt233.2 true) else (if bt233.2.toList = ([] : List UInt8) then (broadsheetref13_Parse.j0 k bt233.1 bt233.2 true) else (if 0 < (bt233.2.size : Int) then (broadsheetref13_Parse.j0 k bt233.1 bt233.2 ((bt bt233.2 0) != 47)) else (none)))))
set_option maxHeartbeats 8000000 in
set_option maxRecDepth 100000 in
theorem broadsheetref13_Parse.calls (k : Nat) (a0 : ByteArray) (r1 : ByteArray) (r2 : ByteArray) (r3 : List (S50)) (r4 : Int) (w : World) (h : broadsheetref13_Parse.f k a0 = some (r1, r2, r3, r4)) :
  Calls Tryz.prog 33 #[.string a0] w fun e w' => ∃ v2_ : Value, e = .returned (.tuple #[.agg #[.string r1, .string r2, v2_], .int .i64 r4]) ∧ Kd.R k50 50 w' w.heap.size (fun _ => True) v2_ r3 ∧ Below w.heap.size w w' := by
 have hu40 := Tryz.underlying40
 have HB := Aside0.mk (Below.refl w.heap.size w)
 have H : ((broadsheetref13_Skip.f k a0).bind fun t232 => ((broadsheetref13_Token.f k t232).bind fun bt233 => (if bt233.1.toList = ([] : List UInt8) then (broadsheetref13_Parse.j0 k bt233.1 bt233.2 true) else (if bt233.2.toList = ([] : List UInt8) then (broadsheetref13_Parse.j0 k bt233.1 bt233.2 true) else (if 0 < (bt233.2.size : Int) then (broadsheetref13_Parse.j0 k bt233.1 bt233.2 ((bt bt233.2 0) != 47)) else (none)))))) = some (r1, r2, r3, r4) := h
 clear h
 replace H := Option.bind_eq_some_iff.mp H
 obtain ⟨t232, A20, H⟩ := H
 replace H : ((broadsheetref13_Token.f k t232).bind fun bt233 => (if bt233.1.toList = ([] : List UInt8) then (broadsheetref13_Parse.j0 k bt233.1 bt233.2 true) else (if bt233.2.toList = ([] : List UInt8) then (broadsheetref13_Parse.j0 k bt233.1 bt233.2 true) else (if 0 < (bt233.2.size : Int) then (broadsheetref13_Parse.j0 k bt233.1 bt233.2 ((bt bt233.2 0) != 47)) else (none))))) = some (r1, r2, r3, r4) := H
 have A2 := Aside0.mk A20
 clear A20
 replace H := Option.bind_eq_some_iff.mp H
 obtain ⟨⟨t233, t234⟩, A30, H⟩ := H
 replace H : (if t233.toList = ([] : List UInt8) then (broadsheetref13_Parse.j0 k t233 t234 true) else (if t234.toList = ([] : List UInt8) then (broadsheetref13_Parse.j0 k t233 t234 true) else (if 0 < (t234.size : Int) then (broadsheetref13_Parse.j0 k t233 t234 ((bt t234 0) != 47)) else (none)))) = some (r1, r2, r3, r4) := H
 have A3 := Aside0.mk A30
 clear A30
 have HC4 := Aside0.mk H
 clear H
 go_enter Tryz.func33, Tryz.ntmps33
 go_upto_region 2 with (first | ((with_reducible refine gate_dst (N := 2) rfl ?_); refine box_event ?hg (N := 2) ?hd (cs := #[.string (⟨#[]⟩ : ByteArray), .string (⟨#[]⟩ : ByteArray), .slice none 0 0]) (t := 40) ?hr ?_; (case hd => rfl); (case hg => rfl); (case hr => first | (go_simp; done) | (go_simp; rfl)); intro gb231 hg w5 hbox hb; have n0_ := Aside0.mk (below_step zb0 hb); have n1_ := Aside0.mk (hbox); have n2_ := Aside0.mk ((by rw [hg]; exact (below_size zb0) : w.heap.size ≤ gb231)); have n3_ := Aside0.mk ((by rw [hg]; exact (below_size zb0) : w.heap.size ≤ gb231)); clear HB; have HB := n0_; have BK231 := n1_; have GW231 := n2_; have GE231 := n3_; clear n0_ n1_ n2_ n3_; clear hb hbox hg) | ((with_reducible refine gate_callee (f := 25) rfl ?_); refine goesL_ (some 11) rfl rfl Tryz.func25 zb9 rfl #[.string a0] rfl zb2 ?_; (with_reducible refine (broadsheetref13_Skip.calls k a0 t232 _ A2.out).mono ?_); rintro e w' ⟨rfl, ⟨nd, rfl⟩⟩; refine ⟨_, rfl, ?_⟩) | ((with_reducible refine gate_callee (f := 46) rfl ?_); refine goesL_ (some 12) rfl rfl Tryz.func46 zb9 rfl #[.string t232] rfl zb2 ?_; (with_reducible refine (broadsheetref13_Token.calls k t232 t233 t234 _ A3.out).mono ?_); rintro e w' ⟨rfl, ⟨nd, rfl⟩⟩; refine ⟨_, rfl, ?_⟩))
 (try simp only [Act.put, List.setIfInBounds_toArray, List.set_cons_zero, List.set_cons_succ])
 go_cut [25] (fun v25 wc => ∃ (kq : Nat) (x25_3 : Bool), v25 = .bool x25_3 ∧ Aside0 (broadsheetref13_Parse.j0 kq t233 t234 x25_3 = some (r1, r2, r3, r4)) ∧ Aside0 (kq ≤ k) ∧ Aside0 (wc.heap[gb231]? = some (.cells #[.string (⟨#[]⟩ : ByteArray), .string (⟨#[]⟩ : ByteArray), (.slice none 0 0)] 40 (0, 0))) ∧ Aside0 (Below w.heap.size w wc))
 case first =>
  have H := HC4.out
  clear HC4
  by_cases c6 : t233.toList = ([] : List UInt8)
  ·rw [if_pos c6] at H
   have c6b0 : (t233.toList == ([] : List UInt8)) = true := beq_iff_eq.mpr c6
   have c6b1 : (t233.toList != ([] : List UInt8)) = false := bne_eq_false_iff_eq.mpr c6
   clear c6
   (first | rw [c6b0] | (simp only [i64_w, i32_w]; rw [c6b0]) | skip)
   have H' := Aside0.mk H
   clear H
   go_wp2
   go_meet
   case rel => exact ⟨_, (true), zb4, H', ⟨by first | omega | exact Nat.le_refl _⟩, ⟨by (with_reducible repeat (first | refine blk_drewN ?_ _ | refine blk_drew ?_ | refine blk_alloc ?_ _)); exact BK231.out⟩, ⟨by repeat (first | (with_reducible first | exact HB.out | apply below_alloc | apply pw_below_drewN | apply below_drew1 | refine below_set ?_ GE231.out) | exact HB.out)⟩⟩
  ·rw [if_neg c6] at H
   have c6b0 : (t233.toList == ([] : List UInt8)) = false := beq_eq_false_iff_ne.mpr c6
   have c6b1 : (t233.toList != ([] : List UInt8)) = true := bne_iff_ne.mpr c6
   (first | rw [c6b0] | (simp only [i64_w, i32_w]; rw [c6b0]) | skip)
   by_cases c7 : t234.toList = ([] : List UInt8)
   ·rw [if_pos c7] at H
    have c7b0 : (t234.toList == ([] : List UInt8)) = true := beq_iff_eq.mpr c7
    have c7b1 : (t234.toList != ([] : List UInt8)) = false := bne_eq_false_iff_eq.mpr c7
    clear c7
    have H' := Aside0.mk H
    clear H
    go_wp2
    go_meet
    case rel => exact ⟨_, (true), zb4, H', ⟨by first | omega | exact Nat.le_refl _⟩, ⟨by (with_reducible repeat (first | refine blk_drewN ?_ _ | refine blk_drew ?_ | refine blk_alloc ?_ _)); exact BK231.out⟩, ⟨by repeat (first | (with_reducible first | exact HB.out | apply below_alloc | apply pw_below_drewN | apply below_drew1 | refine below_set ?_ GE231.out) | exact HB.out)⟩⟩
   ·rw [if_neg c7] at H
    have c7b0 : (t234.toList == ([] : List UInt8)) = false := beq_eq_false_iff_ne.mpr c7
    have c7b1 : (t234.toList != ([] : List UInt8)) = true := bne_iff_ne.mpr c7
    by_cases c8 : 0 < (t234.size : Int)
    ·rw [if_pos c8] at H
     have c8b0 : decide (0 < (t234.size : Int)) = true := decide_eq_true c8
     have c8b1 : decide (0 < t234.size) = true := decide_eq_true zb42
     clear c8
     have H' := Aside0.mk H
     clear H
     have p9 : 0 ≤ (0 : Int) := zb42
     have q9 : 0 < t234.size := (by have : (0 : Int) < (t234.size : Int) := of_decide_eq_true zb3; omega)
     have hx9 : ∀ h : 0 < t234.size, ((t234[0]'h).toNat : Int) = bt t234 0 := bt_at t234 0
     clear p9
     have qi9 : (0 < (t234.size : Int)) = True := eq_true (of_decide_eq_true zb3)
     replace q9 := eq_true q9
     go_wp2
     go_meet
     case rel => exact ⟨_, (((bt t234 0) != 47)), zb4, H', ⟨by first | omega | exact Nat.le_refl _⟩, ⟨by (with_reducible repeat (first | refine blk_drewN ?_ _ | refine blk_drew ?_ | refine blk_alloc ?_ _)); exact BK231.out⟩, ⟨by repeat (first | (with_reducible first | exact HB.out | apply below_alloc | apply pw_below_drewN | apply below_drew1 | refine below_set ?_ GE231.out) | exact HB.out)⟩⟩
    ·rw [if_neg c8] at H
     exact absurd H zb45
 case rest =>
  clear HC4
  try clear c2
  try clear p2
  try clear c3
  try clear c4
  try clear c6
  try clear c6b0
  try clear c6b1
  try clear c7
  try clear c7b0
  try clear c7b1
  try clear c8
  try clear c8b0
  try clear c8b1
  try clear p9
  try clear q9
  try clear hx9
  try clear qi9
  try clear p9
  try clear q9
  obtain ⟨kq, x25_3, rfl, HA, HJ3, BK231, HB⟩ := hcut
  cases kq with
  | zero => exact absurd HA.out (by simp [broadsheetref13_Parse.j0])
  | succ kj3 =>
   have H := HA.out
   clear HA
   simp only [broadsheetref13_Parse.j0] at H
   by_cases c10 : x25_3 = true
   ·subst c10
    replace H : (some ((⟨#[]⟩ : ByteArray), (⟨#[]⟩ : ByteArray), ([] : List (S50)), 130)) = some (r1, r2, r3, r4) := by rw [if_pos rfl] at H; exact H
    simp only [Option.some.injEq, Prod.mk.injEq] at H
    obtain ⟨rfl, rfl, rfl, rfl⟩ := H
    have hcz11_0 : wc.cell? ⟨gb231, 0, none⟩ = some (.string (⟨#[]⟩ : ByteArray)) := (blk_cell BK231.out 0).trans rfl
    have hcz11_1 : wc.cell? ⟨gb231, 1, none⟩ = some (.string (⟨#[]⟩ : ByteArray)) := (blk_cell BK231.out 1).trans rfl
    have hcz11_2 : wc.cell? ⟨gb231, 2, none⟩ = some (.slice none 0 0) := (blk_cell BK231.out 2).trans rfl
    have hfz11_0 := blk_frozen BK231.out 0
    have hfz11_1 := blk_frozen BK231.out 1
    have hfz11_2 := blk_frozen BK231.out 2
    go_wp2
    refine bodyPost_ret (results_ct rfl _ _ gb231 40 #[.string (⟨#[]⟩ : ByteArray), .string (⟨#[]⟩ : ByteArray), .slice none 0 0] (0, 0) _ rfl zb35 Tryz.underlying40 rfl zb9) rfl ?_
    exact ⟨_, by first | rfl | (simp [errW_none, errW_some, bne_nil_] <;> rfl) | (simp [*, errW_none, errW_some] <;> rfl), by first | exact Kd.R_nil _ _ _ _ _ | exact Kd.N_nil _ _ _ _ _ | exact Kd.V_nil _ _ _ _ _ | exact Kd.Q_nil _ _ _ _ _ | exact Kd.S_nil _ _ _ _ _, zb28⟩
   ·replace c10 := Bool.eq_false_iff.mpr c10
    subst c10
    replace H : (if 1 ≤ (t234.size : Int) then ((broadsheetref13_Token.f kj3 (t234.extract 1 t234.size)).bind fun bt235 => ((broadsheetref13_Params.f kj3 bt235.2).bind fun bt237 => (if bt235.1.toList = ([] : List UInt8) then (broadsheetref13_Parse.j1 kj3 t233 bt235.1 bt237.1 true) else (if bt237.2 = true then (if t233.toList = ([42] : List UInt8) then (broadsheetref13_Parse.j1 kj3 t233 bt235.1 bt237.1 (bt235.1.toList != ([42] : List UInt8))) else (broadsheetref13_Parse.j1 kj3 t233 bt235.1 bt237.1 false)) else (broadsheetref13_Parse.j1 kj3 t233 bt235.1 bt237.1 true))))) else (none)) = some (r1, r2, r3, r4) := by rw [if_neg (show ¬ (false = true) by decide)] at H; exact H
    by_cases c12 : 1 ≤ (t234.size : Int)
    ·rw [if_pos c12] at H
     have c12b0 := eq_true c12
     have c12b1 : decide (1 ≤ (t234.size : Int)) = true := decide_eq_true c12
     clear c12
     replace H := Option.bind_eq_some_iff.mp H
     obtain ⟨⟨t235, t236⟩, A130, H⟩ := H
     replace H : ((broadsheetref13_Params.f kj3 t236).bind fun bt237 => (if t235.toList = ([] : List UInt8) then (broadsheetref13_Parse.j1 kj3 t233 t235 bt237.1 true) else (if bt237.2 = true then (if t233.toList = ([42] : List UInt8) then (broadsheetref13_Parse.j1 kj3 t233 t235 bt237.1 (t235.toList != ([42] : List UInt8))) else (broadsheetref13_Parse.j1 kj3 t233 t235 bt237.1 false)) else (broadsheetref13_Parse.j1 kj3 t233 t235 bt237.1 true)))) = some (r1, r2, r3, r4) := H
     have A13 := Aside0.mk A130
     clear A130
     replace H := Option.bind_eq_some_iff.mp H
     obtain ⟨⟨t237, t238⟩, A140, H⟩ := H
     replace H : (if t235.toList = ([] : List UInt8) then (broadsheetref13_Parse.j1 kj3 t233 t235 t237 true) else (if t238 = true then (if t233.toList = ([42] : List UInt8) then (broadsheetref13_Parse.j1 kj3 t233 t235 t237 (t235.toList != ([42] : List UInt8))) else (broadsheetref13_Parse.j1 kj3 t233 t235 t237 false)) else (broadsheetref13_Parse.j1 kj3 t233 t235 t237 true))) = some (r1, r2, r3, r4) := H
     have A14 := Aside0.mk A140
     clear A140
     have HC15 := Aside0.mk H
     clear H
     go_upto_region 6 with (first | ((with_reducible refine gate_callee (f := 46) rfl ?_); refine goesL_ (some 30) rfl rfl Tryz.func46 zb9 rfl #[.string (t234.extract 1 t234.size)] rfl zb2 ?_; (with_reducible refine (broadsheetref13_Token.calls kj3 (t234.extract 1 t234.size) t235 t236 _ A13.out).mono ?_); rintro e w' ⟨rfl, ⟨nd, rfl⟩⟩; refine ⟨_, rfl, ?_⟩) | ((with_reducible refine gate_callee (f := 56) rfl ?_); refine goesL_ (some 35) rfl rfl Tryz.func56 zb9 rfl #[.string t236] rfl zb2 ?_; (with_reducible refine (broadsheetref13_Params.calls kj3 t236 t237 t238 _ A14.out).mono ?_); rintro e w16 ⟨v239, rfl, ho0, hb⟩; refine ⟨_, rfl, ?_⟩; have n0_ := Aside0.mk (Kd.R_lower ho0 (below_size zb28)); have n1_ := Aside0.mk (blk_below (g := gb231) (o := .cells #[.string (⟨#[]⟩ : ByteArray), .string (⟨#[]⟩ : ByteArray), .slice none 0 0] 40 (0, 0)) zb53 hb); have n2_ := Aside0.mk (below_step zb28 hb); clear BK231; clear HB; have HO240 := n0_; have BK231 := n1_; have HB := n2_; clear n0_ n1_ n2_; (try clear hb); (try clear hb2); (try clear hk); (try clear hi); (try clear ho0)))
     (try simp only [Act.put, List.setIfInBounds_toArray, List.set_cons_zero, List.set_cons_succ])
     go_cut [51] (fun v51 wc => ∃ (kq : Nat) (x51_14 : Bool), v51 = .bool x51_14 ∧ Aside0 (broadsheetref13_Parse.j1 kq t233 t235 t237 x51_14 = some (r1, r2, r3, r4)) ∧ Aside0 (kq ≤ kj3) ∧ Aside0 (Kd.R k50 50 wc w.heap.size (fun _ => True) v239 t237) ∧ Aside0 (wc.heap[gb231]? = some (.cells #[.string (⟨#[]⟩ : ByteArray), .string (⟨#[]⟩ : ByteArray), (.slice none 0 0)] 40 (0, 0))) ∧ Aside0 (Below w.heap.size w wc))
     case first =>
      have H := HC15.out
      clear HC15
      by_cases c17 : t235.toList = ([] : List UInt8)
      ·rw [if_pos c17] at H
       have c17b0 : (t235.toList == ([] : List UInt8)) = true := beq_iff_eq.mpr c17
       have c17b1 : (t235.toList != ([] : List UInt8)) = false := bne_eq_false_iff_eq.mpr c17
       clear c17
       (first | rw [c17b0] | (simp only [i64_w, i32_w]; rw [c17b0]) | skip)
       have H' := Aside0.mk H
       clear H
       go_wp2
       go_meet
       case rel => exact ⟨_, (true), zb4, H', ⟨by have := HJ3.out; first | omega | exact Nat.le_refl _⟩, ⟨by (with_reducible repeat (first | apply Kd.R_alloc | apply Kd.R_drewN | apply Kd.R_drew)); exact HO240.out⟩, ⟨by (with_reducible repeat (first | refine blk_drewN ?_ _ | refine blk_drew ?_ | refine blk_alloc ?_ _)); exact BK231.out⟩, ⟨by repeat (first | (with_reducible first | exact HB.out | apply below_alloc | apply pw_below_drewN | apply below_drew1 | refine below_set ?_ GE231.out) | exact HB.out)⟩⟩
      ·rw [if_neg c17] at H
       have c17b0 : (t235.toList == ([] : List UInt8)) = false := beq_eq_false_iff_ne.mpr c17
       have c17b1 : (t235.toList != ([] : List UInt8)) = true := bne_iff_ne.mpr c17
       (first | rw [c17b0] | (simp only [i64_w, i32_w]; rw [c17b0]) | skip)
       by_cases c18 : t238 = true
       ·subst c18
        replace H : (if t233.toList = ([42] : List UInt8) then (broadsheetref13_Parse.j1 kj3 t233 t235 t237 (t235.toList != ([42] : List UInt8))) else (broadsheetref13_Parse.j1 kj3 t233 t235 t237 false)) = some (r1, r2, r3, r4) := by rw [if_pos rfl] at H; exact H
        by_cases c19 : t233.toList = ([42] : List UInt8)
        ·rw [if_pos c19] at H
         have c19b0 : (t233.toList == ([42] : List UInt8)) = true := beq_iff_eq.mpr c19
         have c19b1 : (t233.toList != ([42] : List UInt8)) = false := bne_eq_false_iff_eq.mpr c19
         clear c19
         have H' := Aside0.mk H
         clear H
         go_wp2
         go_meet
         case rel => exact ⟨_, ((t235.toList != ([42] : List UInt8))), zb4, H', ⟨by have := HJ3.out; first | omega | exact Nat.le_refl _⟩, ⟨by (with_reducible repeat (first | apply Kd.R_alloc | apply Kd.R_drewN | apply Kd.R_drew)); exact HO240.out⟩, ⟨by (with_reducible repeat (first | refine blk_drewN ?_ _ | refine blk_drew ?_ | refine blk_alloc ?_ _)); exact BK231.out⟩, ⟨by repeat (first | (with_reducible first | exact HB.out | apply below_alloc | apply pw_below_drewN | apply below_drew1 | refine below_set ?_ GE231.out) | exact HB.out)⟩⟩
        ·rw [if_neg c19] at H
         have c19b0 : (t233.toList == ([42] : List UInt8)) = false := beq_eq_false_iff_ne.mpr c19
         have c19b1 : (t233.toList != ([42] : List UInt8)) = true := bne_iff_ne.mpr c19
         have H' := Aside0.mk H
         clear H
         go_wp2
         go_meet
         case rel => exact ⟨_, (false), zb4, H', ⟨by have := HJ3.out; first | omega | exact Nat.le_refl _⟩, ⟨by (with_reducible repeat (first | apply Kd.R_alloc | apply Kd.R_drewN | apply Kd.R_drew)); exact HO240.out⟩, ⟨by (with_reducible repeat (first | refine blk_drewN ?_ _ | refine blk_drew ?_ | refine blk_alloc ?_ _)); exact BK231.out⟩, ⟨by repeat (first | (with_reducible first | exact HB.out | apply below_alloc | apply pw_below_drewN | apply below_drew1 | refine below_set ?_ GE231.out) | exact HB.out)⟩⟩
       ·replace c18 := Bool.eq_false_iff.mpr c18
        subst c18
        replace H : (broadsheetref13_Parse.j1 kj3 t233 t235 t237 true) = some (r1, r2, r3, r4) := by rw [if_neg (show ¬ (false = true) by decide)] at H; exact H
        have H' := Aside0.mk H
        clear H
        go_wp2
        go_meet
        case rel => exact ⟨_, (true), zb4, H', ⟨by have := HJ3.out; first | omega | exact Nat.le_refl _⟩, ⟨by (with_reducible repeat (first | apply Kd.R_alloc | apply Kd.R_drewN | apply Kd.R_drew)); exact HO240.out⟩, ⟨by (with_reducible repeat (first | refine blk_drewN ?_ _ | refine blk_drew ?_ | refine blk_alloc ?_ _)); exact BK231.out⟩, ⟨by repeat (first | (with_reducible first | exact HB.out | apply below_alloc | apply pw_below_drewN | apply below_drew1 | refine below_set ?_ GE231.out) | exact HB.out)⟩⟩
     case rest =>
      clear HC15
      try clear c1
      try clear c2
      try clear p2
      try clear c3
      try clear c4
      try clear c5
      try clear c6
      try clear c6b0
      try clear c6b1
      try clear c7
      try clear c7b0
      try clear c7b1
      try clear c8
      try clear c8b0
      try clear c8b1
      try clear p9
      try clear q9
      try clear hx9
      try clear qi9
      try clear c10
      try clear c12
      try clear c12b0
      try clear c12b1
      try clear c17
      try clear c17b0
      try clear c17b1
      try clear c18
      try clear c19
      try clear c19b0
      try clear c19b1
      try clear hcz11_0
      try clear hcz11_1
      try clear hcz11_2
      try clear hfz11_0
      try clear hfz11_1
      try clear hfz11_2
      try clear p2
      try clear p9
      try clear q9
      obtain ⟨kq, x51_14, rfl, HA, HJ14, HO_7, BK231, HB⟩ := hcut
      cases kq with
      | zero => exact absurd HA.out (by simp [broadsheetref13_Parse.j1])
      | succ kj14 =>
       have H := HA.out
       clear HA
       simp only [broadsheetref13_Parse.j1] at H
       by_cases c20 : x51_14 = true
       ·subst c20
        replace H : (some ((⟨#[]⟩ : ByteArray), (⟨#[]⟩ : ByteArray), ([] : List (S50)), 130)) = some (r1, r2, r3, r4) := by rw [if_pos rfl] at H; exact H
        simp only [Option.some.injEq, Prod.mk.injEq] at H
        obtain ⟨rfl, rfl, rfl, rfl⟩ := H
        have hcz21_0 : wc.cell? ⟨gb231, 0, none⟩ = some (.string (⟨#[]⟩ : ByteArray)) := (blk_cell BK231.out 0).trans rfl
        have hcz21_1 : wc.cell? ⟨gb231, 1, none⟩ = some (.string (⟨#[]⟩ : ByteArray)) := (blk_cell BK231.out 1).trans rfl
        have hcz21_2 : wc.cell? ⟨gb231, 2, none⟩ = some (.slice none 0 0) := (blk_cell BK231.out 2).trans rfl
        have hfz21_0 := blk_frozen BK231.out 0
        have hfz21_1 := blk_frozen BK231.out 1
        have hfz21_2 := blk_frozen BK231.out 2
        go_wp2
        refine bodyPost_ret (results_ct rfl _ _ gb231 40 #[.string (⟨#[]⟩ : ByteArray), .string (⟨#[]⟩ : ByteArray), .slice none 0 0] (0, 0) _ rfl zb35 Tryz.underlying40 rfl zb9) rfl ?_
        exact ⟨_, by first | rfl | (simp [errW_none, errW_some, bne_nil_] <;> rfl) | (simp [*, errW_none, errW_some] <;> rfl), by first | exact Kd.R_nil _ _ _ _ _ | exact Kd.N_nil _ _ _ _ _ | exact Kd.V_nil _ _ _ _ _ | exact Kd.Q_nil _ _ _ _ _ | exact Kd.S_nil _ _ _ _ _, zb28⟩
       ·replace c20 := Bool.eq_false_iff.mpr c20
        subst c20
        replace H : ((broadsheetref07_Lower.f kj14 t233).bind fun t241 => ((broadsheetref07_Lower.f kj14 t235).bind fun t242 => (some (t241, t242, t237, 0)))) = some (r1, r2, r3, r4) := by rw [if_neg (show ¬ (false = true) by decide)] at H; exact H
        replace H := Option.bind_eq_some_iff.mp H
        obtain ⟨t241, A220, H⟩ := H
        replace H : ((broadsheetref07_Lower.f kj14 t235).bind fun t242 => (some (t241, t242, t237, 0))) = some (r1, r2, r3, r4) := H
        have A22 := Aside0.mk A220
        clear A220
        replace H := Option.bind_eq_some_iff.mp H
        obtain ⟨t242, A230, H⟩ := H
        replace H : (some (t241, t242, t237, 0)) = some (r1, r2, r3, r4) := H
        have A23 := Aside0.mk A230
        clear A230
        simp only [Option.some.injEq, Prod.mk.injEq] at H
        obtain ⟨rfl, rfl, rfl, rfl⟩ := H
        go_wp2_with (first | ((with_reducible refine gate_callee (f := 57) rfl ?_); refine goesL_ (some 54) rfl rfl Tryz.func57 zb9 rfl #[.string t233] rfl zb2 ?_; (with_reducible refine (broadsheetref07_Lower.calls kj14 t233 t241 _ A22.out).mono ?_); rintro e w24 ⟨rfl, hb⟩; refine ⟨_, rfl, ?_⟩; have n0_ := Aside0.mk (Kd.R_below (by (with_reducible repeat (first | apply Kd.R_alloc | apply Kd.R_drewN | apply Kd.R_drew)); exact HO_7.out) hb); have n1_ := Aside0.mk (blk_below (g := gb231) (o := .cells #[.string (⟨#[]⟩ : ByteArray), .string (⟨#[]⟩ : ByteArray), .slice none 0 0] 40 (0, 0)) zb53 hb); have n2_ := Aside0.mk (below_step zb28 hb); clear HO_7; clear BK231; clear HB; have HO_7 := n0_; have BK231 := n1_; have HB := n2_; clear n0_ n1_ n2_; (try clear hb); (try clear hb2); (try clear hk); (try clear hi)) | ((with_reducible refine gate_callee (f := 57) rfl ?_); refine goesL_ (some 56) rfl rfl Tryz.func57 zb9 rfl #[.string t235] rfl zb2 ?_; (with_reducible refine (broadsheetref07_Lower.calls kj14 t235 t242 _ A23.out).mono ?_); rintro e w25 ⟨rfl, hb⟩; refine ⟨_, rfl, ?_⟩; have n0_ := Aside0.mk (Kd.R_below (by (with_reducible repeat (first | apply Kd.R_alloc | apply Kd.R_drewN | apply Kd.R_drew)); exact HO_7.out) hb); have n1_ := Aside0.mk (blk_below (g := gb231) (o := .cells #[.string (⟨#[]⟩ : ByteArray), .string (⟨#[]⟩ : ByteArray), .slice none 0 0] 40 (0, 0)) zb53 hb); have n2_ := Aside0.mk (below_step zb28 hb); clear HO_7; clear BK231; clear HB; have HO_7 := n0_; have BK231 := n1_; have HB := n2_; clear n0_ n1_ n2_; (try clear hb); (try clear hb2); (try clear hk); (try clear hi); obtain ⟨Ao26, co26, eo26⟩ := Kd.R_slice HO_7.out; subst eo26; have hcz27_0 : w25.cell? ⟨gb231, 0, none⟩ = some (.string (⟨#[]⟩ : ByteArray)) := (blk_cell BK231.out 0).trans rfl; have hcz27_1 : w25.cell? ⟨gb231, 1, none⟩ = some (.string (⟨#[]⟩ : ByteArray)) := (blk_cell BK231.out 1).trans rfl; have hcz27_2 : w25.cell? ⟨gb231, 2, none⟩ = some (.slice none 0 0) := (blk_cell BK231.out 2).trans rfl; have hfz27_0 := blk_frozen BK231.out 0; have hfz27_1 := blk_frozen BK231.out 1; have hfz27_2 := blk_frozen BK231.out 2))
        refine bodyPost_ret (results_ct rfl _ _ gb231 40 #[.string t241, .string t242, .slice Ao26 t237.length co26] (0, 0) _ rfl (by (with_reducible repeat (first | refine blk_drewN ?_ _ | refine blk_drew ?_ | refine blk_alloc ?_ _)); refine blk_put (cs := #[.string t241, .string t242, .slice none 0 0]) ?_ 2 _ rfl; (with_reducible repeat (first | refine blk_drewN ?_ _ | refine blk_drew ?_ | refine blk_alloc ?_ _)); refine blk_put (cs := #[.string t241, .string (⟨#[]⟩ : ByteArray), .slice none 0 0]) ?_ 1 _ rfl; (with_reducible repeat (first | refine blk_drewN ?_ _ | refine blk_drew ?_ | refine blk_alloc ?_ _)); refine blk_put (cs := #[.string (⟨#[]⟩ : ByteArray), .string (⟨#[]⟩ : ByteArray), .slice none 0 0]) ?_ 0 _ rfl; (with_reducible repeat (first | refine blk_drewN ?_ _ | refine blk_drew ?_ | refine blk_alloc ?_ _)); exact BK231.out) Tryz.underlying40 rfl zb9) rfl ?_
        exact ⟨_, by first | rfl | (simp [errW_none, errW_some, bne_nil_] <;> rfl) | (simp [*, errW_none, errW_some] <;> rfl), by (with_reducible repeat (first | apply Kd.R_alloc | apply Kd.R_drewN | apply Kd.R_drew)); exact Kd.R_mono (Kd.R_far (p := ⟨gb231, 2, none⟩) (Kd.R_far (p := ⟨gb231, 1, none⟩) (Kd.R_far (p := ⟨gb231, 0, none⟩) (Kd.R_types HO_7.out BK231.out zb47) (fun _ hk => hk.2) (.string t241)) (fun _ hk => hk.2) (.string t242)) (fun _ hk => hk.2) (.slice Ao26 t237.length co26)) (fun _ hk => trivial), zb28⟩
    ·rw [if_neg c12] at H
     exact absurd H zb45
end Go.Proofs.YtghfbhobpodoeaaGreatDoor.P
/- SpQf -/
namespace Go.Proofs.YtghfbhobpodoeaaGreatDoor.Sp
open Go Go.RowKit Go.Proofs.YtghfbhobpodoeaaGreatDoorW.PrintWords Go.Proofs.YtghfbhobpodoeaaGreatDoorW.PrintLast Go.Proofs.YtghfbhobpodoeaaGreatDoor.O Go.Proofs.YtghfbhobpodoeaaGreatDoor.P
set_option linter.unusedVariables false
set_option linter.unusedSimpArgs false
theorem rj1_bad (k : Nat) (a b : ByteArray) (l : List S50) (hk : 1 ≤ k) : broadsheetref13_Parse.j1 k a b l true = some ((⟨#[]⟩ : ByteArray), (⟨#[]⟩ : ByteArray), ([] : List S50), 130) := by
  obtain ⟨k, rfl⟩ : ∃ m, k = m + 1 := ⟨k - 1, by omega⟩
  rw [broadsheetref13_Parse.j1, if_pos rfl]
theorem rj1_ok (k : Nat) (a b : L) (l : List S50) (ha : a.length ≤ 1000000000000) (hb : b.length ≤ 1000000000000) (hk : a.length + b.length + 2 ≤ k) : broadsheetref13_Parse.j1 k (mk a) (mk b) l false = some (mk (low a), mk (low b), l, 0) := by
  obtain ⟨k, rfl⟩ : ∃ m, k = m + 1 := ⟨k - 1, by omega⟩
  rw [broadsheetref13_Parse.j1, if_neg (by decide), rlowF a k ha (by omega), rlowF b k hb (by omega)]
  rfl
theorem rj0_bad (k : Nat) (a b : ByteArray) (hk : 1 ≤ k) : broadsheetref13_Parse.j0 k a b true = some ((⟨#[]⟩ : ByteArray), (⟨#[]⟩ : ByteArray), ([] : List S50), 130) := by
  obtain ⟨k, rfl⟩ : ∃ m, k = m + 1 := ⟨k - 1, by omega⟩
  rw [broadsheetref13_Parse.j0, if_pos rfl]
theorem rmparseF (s : L) (k : Nat) (hs : s.length ≤ 10000000000) (hk : 3 * s.length + 20 ≤ k) : ∃ q, broadsheetref13_Parse.f k (mk s) = some q ∧ parse4 (mparse s) q := by
  have l1 := skip_len s
  have l2 := tok_len (skip s)
  unfold broadsheetref13_Parse.f
  rw [rskipF s k (by omega), Option.bind_some, rtokF (skip s) k (by omega) (by omega), Option.bind_some]
  simp only [tl_mk]
  unfold mparse
  generalize (tok (skip s)).1 = t at *
  generalize (tok (skip s)).2 = r at *
  by_cases ht : t = []
  · rw [if_pos ht, if_pos ht, rj0_bad _ _ _ (by omega)]
    exact ⟨_, rfl, rfl⟩
  · rw [if_neg ht, if_neg ht]
    cases r with
    | nil =>
      rw [if_pos rfl, rj0_bad _ _ _ (by omega), if_pos (by simp)]
      exact ⟨_, rfl, rfl⟩
    | cons c r =>
      rw [List.length_cons] at l2
      have l4 := tok_len r
      rw [if_neg (by simp), if_pos (by rw [mk_size]; simp), bt_head]
      have hc : ((c.toNat : Int) = 47) ↔ c = 47 := u8c c 47 (by decide)
      by_cases h47 : c = 47
      · rw [show (((c.toNat : Int) != 47) = false) by simpa using hc.2 h47]
        obtain ⟨k, rfl⟩ : ∃ m, k = m + 1 := ⟨k - 1, by omega⟩
        rw [broadsheetref13_Parse.j0, if_neg (by decide), if_pos (by rw [mk_size]; simp; omega), ext1, rtokF r k (by omega) (by omega), Option.bind_some]
        obtain ⟨q, hq, hp⟩ := rparamsF (tok r).2 k (by omega) (by omega)
        rw [hq, Option.bind_some]
        rw [if_neg (show ¬ ((c :: r).head? ≠ some 47) by rw [h47]; simp)]
        simp only [tl_mk]
        show ∃ q_1, _ = some q_1 ∧ parse4 (match pars (tok r).2 with
          | none => none
          | some l => if (tok r).1 = [] then none else if t = [42] ∧ (tok r).1 ≠ [42] then none else some (⟨low t, low (tok r).1, l⟩ : Med)) q_1
        by_cases hb : (tok r).1 = []
        · rw [if_pos hb, rj1_bad _ _ _ _ (by omega)]
          refine ⟨_, rfl, ?_⟩
          cases pars (tok r).2 with
          | none => rfl
          | some l =>
            simp only
            rw [if_pos hb]
            rfl
        · rw [if_neg hb]
          cases ho : pars (tok r).2 with
          | none =>
            rw [ho] at hp
            have e : q.2 = false := congrArg Prod.snd hp
            rw [e, if_neg (by decide), rj1_bad _ _ _ _ (by omega)]
            exact ⟨_, rfl, rfl⟩
          | some l =>
            rw [ho] at hp
            have e : q = (pairsB ([] ++ l), true) := hp
            rw [List.nil_append] at e
            rw [e]
            simp only [if_true]
            rw [if_neg hb]
            by_cases h42 : t = [42]
            · rw [if_pos h42]
              by_cases hb42 : (tok r).1 = [42]
              · rw [show ((tok r).1 != [42]) = false from by rw [hb42]; rfl, rj1_ok k _ _ _ (by omega) (by omega) (by omega), if_neg (fun h => h.2 hb42)]
                exact ⟨_, rfl, rfl⟩
              · rw [show ((tok r).1 != [42]) = true from by simpa using hb42, rj1_bad k _ _ _ (by omega), if_pos ⟨h42, hb42⟩]
                exact ⟨_, rfl, rfl⟩
            · rw [if_neg h42, rj1_ok k _ _ _ (by omega) (by omega) (by omega), if_neg (fun h => h42 h.1)]
              exact ⟨_, rfl, rfl⟩
      · rw [show (((c.toNat : Int) != 47) = true) by simpa using fun x => h47 (hc.1 x), rj0_bad _ _ _ (by omega), if_pos (by simpa using h47)]
        exact ⟨_, rfl, rfl⟩
end Go.Proofs.YtghfbhobpodoeaaGreatDoor.Sp
/- Px27 -/
namespace Go.Proofs.YtghfbhobpodoeaaGreatDoor.P
open Go.Proofs.YtghfbhobpodoeaaGreatDoor.B
open Go.RowKit Go.Proofs.YtghfbhobpodoeaaGreatDoorW.PrintWords Go.Proofs.YtghfbhobpodoeaaGreatDoorW.PrintLast Go.Proofs.YtghfbhobpodoeaaGreatDoorW.PrintMore
attribute [local go_sem] run_store_float str_leq str_gtr str_geq max2_int min2_int max_two min_two max_three min_three max_four min_four
set_option linter.unusedVariables false
set_option linter.unusedSimpArgs false
def broadsheetref13_Param.l0 : Nat → ByteArray → Int → ByteArray → ByteArray → List (S50) → Option (ByteArray × Bool)
  | 0, _, _, _, _, _ => none
  | k + 1, x1, x6, x244000, x244001, x244002 => if x6 < (x244002.length : Int) then (if 0 ≤ x6 then (if ((rd_T50 x244002 x6).f0).toList = x1.toList then (some ((rd_T50 x244002 x6).f1, true)) else (broadsheetref13_Param.l0 k x1 (wrap64 (x6 + 1)) x244000 x244001 x244002)) else (none)) else (some ((⟨#[]⟩ : ByteArray), false))
def broadsheetref13_Param.f (k : Nat) (a0_0 : ByteArray) (a0_1 : ByteArray) (l0_2 : List (S50)) (a1 : ByteArray) : Option (ByteArray × Bool) := broadsheetref13_Param.l0 k a1 0 a0_0 a0_1 l0_2
set_option maxHeartbeats 8000000 in
set_option maxRecDepth 100000 in
theorem broadsheetref13_Param.calls (k : Nat) (a0_0 : ByteArray) (a0_1 : ByteArray) (A0_2 : Option Addr) (c0_2 : Nat) (l0_2 : List (S50)) (a1 : ByteArray) (r1 : ByteArray) (r2 : Bool) (w : World) (hr0_2 : Kd.C k50 w A0_2 l0_2.length l0_2) (hc0_2 : l0_2.length ≤ c0_2) (h : broadsheetref13_Param.f k a0_0 a0_1 l0_2 a1 = some (r1, r2)) :
  Calls Tryz.prog 34 #[.agg #[.string a0_0, .string a0_1, .slice A0_2 l0_2.length c0_2], .string a1] w fun e w' => e = .returned (.tuple #[.string r1, .bool r2]) ∧ Below w.heap.size w w' := by
 have hu40 := Tryz.underlying40
 have HR0_2 := Aside0.mk hr0_2
 have HC0_2 := Aside0.mk hc0_2
 clear hr0_2 hc0_2
 have HB := Aside0.mk (Below.refl w.heap.size w)
 have H : (broadsheetref13_Param.l0 k a1 0 a0_0 a0_1 l0_2) = some (r1, r2) := h
 clear h
 have H' := Aside0.mk H
 clear H
 go_enter Tryz.func34, Tryz.ntmps34
 go_wp2_with (first | ((with_reducible refine gate_dst (N := 2) rfl ?_); refine box_event ?hg (N := 2) ?hd (cs := #[.string a0_0, .string a0_1, .slice A0_2 l0_2.length c0_2]) (t := 40) ?hr ?_; (case hd => rfl); (case hg => rfl); (case hr => first | (go_simp; done) | (go_simp; rfl)); intro gb243 hg w3 hbox hb; have n0_ := Aside0.mk (below_step zb0 hb); have n1_ := Aside0.mk (hbox); have n2_ := Aside0.mk ((by rw [hg]; exact (below_size zb0) : w.heap.size ≤ gb243)); have n3_ := Aside0.mk ((by rw [hg]; exact (below_size zb0) : w.heap.size ≤ gb243)); clear HB; have HB := n0_; have BK243 := n1_; have GW243 := n2_; have GE243 := n3_; clear n0_ n1_ n2_ n3_; clear hb hbox hg))
 first | go_loopg [6] k (fun kq v6 w' => ∃ (x6_1 : Int), v6 = .int .i64 x6_1 ∧ Aside0 (broadsheetref13_Param.l0 kq a1 x6_1 a0_0 a0_1 l0_2 = some (r1, r2)) ∧ Aside0 (kq ≤ k) ∧ Aside0 (w'.heap[gb243]? = some (.cells #[.string a0_0, .string a0_1, (.slice A0_2 l0_2.length c0_2)] 40 (0, 0))) ∧ Aside0 (Below w.heap.size w w')) | (go_simp; go_loopg [6] k (fun kq v6 w' => ∃ (x6_1 : Int), v6 = .int .i64 x6_1 ∧ Aside0 (broadsheetref13_Param.l0 kq a1 x6_1 a0_0 a0_1 l0_2 = some (r1, r2)) ∧ Aside0 (kq ≤ k) ∧ Aside0 (w'.heap[gb243]? = some (.cells #[.string a0_0, .string a0_1, (.slice A0_2 l0_2.length c0_2)] 40 (0, 0))) ∧ Aside0 (Below w.heap.size w w')))
 case atStart => exact ⟨(0), zb4, H', ⟨Nat.le_refl _⟩, ⟨by (with_reducible repeat (first | refine blk_drewN ?_ _ | refine blk_drew ?_ | refine blk_alloc ?_ _)); exact BK243.out⟩, ⟨by repeat (first | (with_reducible first | exact HB.out | apply below_alloc | apply pw_below_drewN | apply below_drew1 | refine below_set ?_ GE243.out) | exact HB.out)⟩⟩
 case round =>
  clear H'
  try clear p2
  try clear c3
  obtain ⟨x6_1, rfl, HA, HK1, BK243, HB⟩ := hrel
  cases gk with
  | zero => exact absurd HA.out (by simp [broadsheetref13_Param.l0])
  | succ k1 =>
   have H := HA.out
   clear HA
   simp only [broadsheetref13_Param.l0] at H
   by_cases c4 : x6_1 < (l0_2.length : Int)
   ·rw [if_pos c4] at H
    have c4b0 : decide (x6_1 < (l0_2.length : Int)) = true := decide_eq_true c4
    clear c4
    by_cases c5 : 0 ≤ x6_1
    ·rw [if_pos c5] at H
     have c5b0 : decide (0 ≤ x6_1) = true := decide_eq_true c5
     clear c5
     by_cases c6 : ((rd_T50 l0_2 x6_1).f0).toList = a1.toList
     ·rw [if_pos c6] at H
      have c6b0 : (((rd_T50 l0_2 x6_1).f0).toList == a1.toList) = true := beq_iff_eq.mpr c6
      have c6b1 : (((rd_T50 l0_2 x6_1).f0).toList != a1.toList) = false := bne_eq_false_iff_eq.mpr c6
      clear c6
      simp only [Option.some.injEq, Prod.mk.injEq] at H
      obtain ⟨rfl, rfl⟩ := H
      have hcz7_0 : wr.cell? ⟨gb243, 0, none⟩ = some (.string a0_0) := (blk_cell BK243.out 0).trans rfl
      have hcz7_1 : wr.cell? ⟨gb243, 1, none⟩ = some (.string a0_1) := (blk_cell BK243.out 1).trans rfl
      have hcz7_2 : wr.cell? ⟨gb243, 2, none⟩ = some (.slice A0_2 l0_2.length c0_2) := (blk_cell BK243.out 2).trans rfl
      have hfz7_0 := blk_frozen BK243.out 0
      have hfz7_1 := blk_frozen BK243.out 1
      have hfz7_2 := blk_frozen BK243.out 2
      have p244 : 0 ≤ (x6_1 : Int) := of_decide_eq_true zb3
      have q244 : x6_1 < (l0_2.length : Int) := of_decide_eq_true zb3
      obtain ⟨ad244, e244, hx244_0, hx244_1⟩ := at_T50 HR0_2.out x6_1 p244 q244
      cases e244
      replace hx244_0 := (HB.out.cell (World.block_lt_of_cell? w _ hx244_0)).trans hx244_0
      replace hx244_1 := (HB.out.cell (World.block_lt_of_cell? w _ hx244_1)).trans hx244_1
      replace p244 := eq_true p244
      replace q244 := eq_true q244
      have p245 : 0 ≤ (x6_1 : Int) := of_decide_eq_true zb3
      have q245 : x6_1 < (l0_2.length : Int) := of_decide_eq_true zb3
      obtain ⟨ad245, e245, hx245_0, hx245_1⟩ := at_T50 HR0_2.out x6_1 p245 q245
      obtain rfl : ad244 = ad245 := (by injection e245)
      replace hx245_0 := (HB.out.cell (World.block_lt_of_cell? w _ hx245_0)).trans hx245_0
      replace hx245_1 := (HB.out.cell (World.block_lt_of_cell? w _ hx245_1)).trans hx245_1
      replace p245 := eq_true p245
      replace q245 := eq_true q245
      go_wp2
      go_ret2
      exact ⟨zb6, (by repeat (first | (with_reducible first | exact HB.out | apply below_alloc | apply pw_below_drewN | apply below_drew1 | refine below_set ?_ GE243.out) | exact HB.out))⟩
     ·rw [if_neg c6] at H
      have c6b0 : (((rd_T50 l0_2 x6_1).f0).toList == a1.toList) = false := beq_eq_false_iff_ne.mpr c6
      have c6b1 : (((rd_T50 l0_2 x6_1).f0).toList != a1.toList) = true := bne_iff_ne.mpr c6
      have H' := Aside0.mk H
      clear H
      have hcz8_0 : wr.cell? ⟨gb243, 0, none⟩ = some (.string a0_0) := (blk_cell BK243.out 0).trans rfl
      have hcz8_1 : wr.cell? ⟨gb243, 1, none⟩ = some (.string a0_1) := (blk_cell BK243.out 1).trans rfl
      have hcz8_2 : wr.cell? ⟨gb243, 2, none⟩ = some (.slice A0_2 l0_2.length c0_2) := (blk_cell BK243.out 2).trans rfl
      have hfz8_0 := blk_frozen BK243.out 0
      have hfz8_1 := blk_frozen BK243.out 1
      have hfz8_2 := blk_frozen BK243.out 2
      have p244 : 0 ≤ (x6_1 : Int) := of_decide_eq_true zb3
      have q244 : x6_1 < (l0_2.length : Int) := of_decide_eq_true zb3
      obtain ⟨ad244, e244, hx244_0, hx244_1⟩ := at_T50 HR0_2.out x6_1 p244 q244
      cases e244
      replace hx244_0 := (HB.out.cell (World.block_lt_of_cell? w _ hx244_0)).trans hx244_0
      replace hx244_1 := (HB.out.cell (World.block_lt_of_cell? w _ hx244_1)).trans hx244_1
      replace p244 := eq_true p244
      replace q244 := eq_true q244
      go_wp2
      go_roundg k1
      case measure => have := HK1.out; omega
      case rel => exact ⟨(wrap64 (x6_1 + 1)), zb4, H', ⟨by have := HK1.out; omega⟩, ⟨by (with_reducible repeat (first | refine blk_drewN ?_ _ | refine blk_drew ?_ | refine blk_alloc ?_ _)); exact BK243.out⟩, ⟨by repeat (first | (with_reducible first | exact HB.out | apply below_alloc | apply pw_below_drewN | apply below_drew1 | refine below_set ?_ GE243.out) | exact HB.out)⟩⟩
    ·rw [if_neg c5] at H
     exact absurd H zb45
   ·rw [if_neg c4] at H
    have c4b0 : decide (x6_1 < (l0_2.length : Int)) = false := decide_eq_false c4
    clear c4
    simp only [Option.some.injEq, Prod.mk.injEq] at H
    obtain ⟨rfl, rfl⟩ := H
    have hcz9_0 : wr.cell? ⟨gb243, 0, none⟩ = some (.string a0_0) := (blk_cell BK243.out 0).trans rfl
    have hcz9_1 : wr.cell? ⟨gb243, 1, none⟩ = some (.string a0_1) := (blk_cell BK243.out 1).trans rfl
    have hcz9_2 : wr.cell? ⟨gb243, 2, none⟩ = some (.slice A0_2 l0_2.length c0_2) := (blk_cell BK243.out 2).trans rfl
    have hfz9_0 := blk_frozen BK243.out 0
    have hfz9_1 := blk_frozen BK243.out 1
    have hfz9_2 := blk_frozen BK243.out 2
    go_wp2
    go_ret2
    exact ⟨zb6, (by repeat (first | (with_reducible first | exact HB.out | apply below_alloc | apply pw_below_drewN | apply below_drew1 | refine below_set ?_ GE243.out) | exact HB.out))⟩
mutual
def broadsheetref13_Fits.j0 : Nat → Bool → ByteArray → ByteArray → List (S50) → ByteArray → ByteArray → List (S50) → Option (Bool)
  | 0, _, _, _, _, _, _, _ => none
  | k + 1, x29, x247000, x247001, x247002, x248000, x248001, x248002 => if x29 = true then (some false) else (broadsheetref13_Fits.l0 k 0 x247000 x247001 x247002 x248000 x248001 x248002)
def broadsheetref13_Fits.l0 : Nat → Int → ByteArray → ByteArray → List (S50) → ByteArray → ByteArray → List (S50) → Option (Bool)
  | 0, _, _, _, _, _, _, _ => none
  | k + 1, x5, x247000, x247001, x247002, x248000, x248001, x248002 => if x5 < (x247002.length : Int) then (if 0 ≤ x5 then (if ((rd_T50 x247002 x5).f0).toList = ([113] : List UInt8) then (broadsheetref13_Fits.l0 k (wrap64 (x5 + 1)) x247000 x247001 x247002 x248000 x248001 x248002) else ((broadsheetref13_Param.f k x248000 x248001 x248002 ((rd_T50 x247002 x5).f0)).bind fun bt250 => (if bt250.2 = true then ((broadsheetref07_Lower.f k bt250.1).bind fun t252 => ((broadsheetref07_Lower.f k ((rd_T50 x247002 x5).f1)).bind fun t254 => (if t252.toList = t254.toList then (broadsheetref13_Fits.l0 k (wrap64 (x5 + 1)) x247000 x247001 x247002 x248000 x248001 x248002) else (some false)))) else (some false)))) else (none)) else (some true)
end
def broadsheetref13_Fits.f (k : Nat) (a0_0 : ByteArray) (a0_1 : ByteArray) (l0_2 : List (S50)) (a1_0 : ByteArray) (a1_1 : ByteArray) (l1_2 : List (S50)) : Option (Bool) := if a0_0.toList = ([42] : List UInt8) then (if a0_1.toList = ([42] : List UInt8) then (broadsheetref13_Fits.j0 k false a0_0 a0_1 l0_2 a1_0 a1_1 l1_2) else (broadsheetref13_Fits.j0 k (a0_1.toList != a1_1.toList) a0_0 a0_1 l0_2 a1_0 a1_1 l1_2)) else (if a0_0.toList = a1_0.toList then (if a0_1.toList = ([42] : List UInt8) then (broadsheetref13_Fits.j0 k false a0_0 a0_1 l0_2 a1_0 a1_1 l1_2) else (broadsheetref13_Fits.j0 k (a0_1.toList != a1_1.toList) a0_0 a0_1 l0_2 a1_0 a1_1 l1_2)) else (broadsheetref13_Fits.j0 k true a0_0 a0_1 l0_2 a1_0 a1_1 l1_2))
def broadsheetref13_Fits.T7 : Bool × List (List Nat × List Nat) := (true, [([], []), ([], []), ([1], [1]), ([], []), ([2, 3], [2, 3]), ([4], [4]), ([5], [5]), ([0, 6], [0, 6]), ([7], [7]), ([8], [8]), ([8], [8]), ([9, 7, 0, 1, 2, 3, 4, 5, 6, 7, 8, 9], [9]), ([10, 11, 0, 1, 2, 3, 4, 5, 6, 7, 8, 9, 10, 11], [10])])
def broadsheetref13_Fits.B7 : List Nat := [0, 0, 2, 0, 14, 30, 62, 127, 255, 511, 511, 1023, 4095]
theorem broadsheetref13_Fits.tab7 : rtab .any (opsOf Tryz.f36 7) = broadsheetref13_Fits.T7 := by kernel_rfl
theorem broadsheetref13_Fits.bits7 : waitsOk broadsheetref13_Fits.T7.2 broadsheetref13_Fits.B7 = true := by kernel_rfl
def broadsheetref13_Fits.T8 : Bool × List (List Nat × List Nat) := (true, [([], []), ([0], [0]), ([1], [1]), ([2], [2]), ([3, 2, 2], [2, 3]), ([2], [2]), ([5, 2], [2, 5]), ([2], [2]), ([6, 7, 2], [2, 6, 7]), ([8, 2], [2, 8]), ([9, 2], [2, 9]), ([10, 4, 2], [2, 10]), ([4, 11, 2], [2, 4, 11]), ([2, 12], [2, 12])])
def broadsheetref13_Fits.B8 : List Nat := [0, 1, 3, 7, 15, 7, 39, 7, 231, 487, 999, 2047, 4095, 8191]
theorem broadsheetref13_Fits.tab8 : rtab .any (opsOf Tryz.f36 8) = broadsheetref13_Fits.T8 := by kernel_rfl
theorem broadsheetref13_Fits.bits8 : waitsOk broadsheetref13_Fits.T8.2 broadsheetref13_Fits.B8 = true := by kernel_rfl
set_option maxHeartbeats 8000000 in
set_option maxRecDepth 100000 in
theorem broadsheetref13_Fits.calls (k : Nat) (a0_0 : ByteArray) (a0_1 : ByteArray) (A0_2 : Option Addr) (c0_2 : Nat) (l0_2 : List (S50)) (a1_0 : ByteArray) (a1_1 : ByteArray) (A1_2 : Option Addr) (c1_2 : Nat) (l1_2 : List (S50)) (r : Bool) (w : World) (hr0_2 : Kd.C k50 w A0_2 l0_2.length l0_2) (hc0_2 : l0_2.length ≤ c0_2) (hr1_2 : Kd.C k50 w A1_2 l1_2.length l1_2) (hc1_2 : l1_2.length ≤ c1_2) (h : broadsheetref13_Fits.f k a0_0 a0_1 l0_2 a1_0 a1_1 l1_2 = some r) :
  Calls Tryz.prog 36 #[.agg #[.string a0_0, .string a0_1, .slice A0_2 l0_2.length c0_2], .agg #[.string a1_0, .string a1_1, .slice A1_2 l1_2.length c1_2]] w fun e w' => e = .returned (.bool r) ∧ Below w.heap.size w w' := by
 have hu40 := Tryz.underlying40
 have HR0_2 := Aside0.mk hr0_2
 have HC0_2 := Aside0.mk hc0_2
 clear hr0_2 hc0_2
 have HR1_2 := Aside0.mk hr1_2
 have HC1_2 := Aside0.mk hc1_2
 clear hr1_2 hc1_2
 have HB := Aside0.mk (Below.refl w.heap.size w)
 have H : (if a0_0.toList = ([42] : List UInt8) then (if a0_1.toList = ([42] : List UInt8) then (broadsheetref13_Fits.j0 k false a0_0 a0_1 l0_2 a1_0 a1_1 l1_2) else (broadsheetref13_Fits.j0 k (a0_1.toList != a1_1.toList) a0_0 a0_1 l0_2 a1_0 a1_1 l1_2)) else (if a0_0.toList = a1_0.toList then (if a0_1.toList = ([42] : List UInt8) then (broadsheetref13_Fits.j0 k false a0_0 a0_1 l0_2 a1_0 a1_1 l1_2) else (broadsheetref13_Fits.j0 k (a0_1.toList != a1_1.toList) a0_0 a0_1 l0_2 a1_0 a1_1 l1_2)) else (broadsheetref13_Fits.j0 k true a0_0 a0_1 l0_2 a1_0 a1_1 l1_2))) = some r := h
 clear h
 have HC3 := Aside0.mk H
 clear H
 go_enter Tryz.func36, Tryz.ntmps36
 go_upto_region 1 with (first | ((with_reducible refine gate_dst (N := 2) rfl ?_); refine box_event ?hg (N := 2) ?hd (cs := #[.string a0_0, .string a0_1, .slice A0_2 l0_2.length c0_2]) (t := 40) ?hr ?_; (case hd => rfl); (case hg => rfl); (case hr => first | (go_simp; done) | (go_simp; rfl)); intro gb246 hg w4 hbox hb; have n0_ := Aside0.mk (below_step zb0 hb); have n1_ := Aside0.mk (hbox); have n2_ := Aside0.mk ((by rw [hg]; exact (below_size zb0) : w.heap.size ≤ gb246)); have n3_ := Aside0.mk ((by rw [hg]; exact (below_size zb0) : w.heap.size ≤ gb246)); clear HB; have HB := n0_; have BK246 := n1_; have GW246 := n2_; have GE246 := n3_; clear n0_ n1_ n2_ n3_; clear hb hbox hg) | ((with_reducible refine gate_dst (N := 3) rfl ?_); refine box_event ?hg (N := 3) ?hd (cs := #[.string a1_0, .string a1_1, .slice A1_2 l1_2.length c1_2]) (t := 40) ?hr ?_; (case hd => rfl); (case hg => rfl); (case hr => first | (go_simp; done) | (go_simp; rfl)); intro gb247 hg w5 hbox hb; have n0_ := Aside0.mk (blk_below (g := gb246) (o := .cells #[.string a0_0, .string a0_1, .slice A0_2 l0_2.length c0_2] 40 (0, 0)) zb27 hb); have n1_ := Aside0.mk (below_step zb49 hb); have n2_ := Aside0.mk (hbox); have n3_ := Aside0.mk ((by rw [hg]; exact (below_size zb49) : w.heap.size ≤ gb247)); have n4_ := Aside0.mk ((by rw [hg]; exact (below_size zb49) : w.heap.size ≤ gb247)); have n5_ := Aside0.mk ((by rw [hg]; exact Nat.ne_of_lt (blk_lt (g := gb246) (o := .cells #[.string a0_0, .string a0_1, .slice A0_2 l0_2.length c0_2] 40 (0, 0)) zb27) : gb246 ≠ gb247)); have n6_ := Aside0.mk ((by rw [hg]; exact Nat.ne_of_gt (blk_lt (g := gb246) (o := .cells #[.string a0_0, .string a0_1, .slice A0_2 l0_2.length c0_2] 40 (0, 0)) zb27) : gb247 ≠ gb246)); clear BK246; clear HB; have BK246 := n0_; have HB := n1_; have BK247 := n2_; have GW247 := n3_; have GE247 := n4_; have NB246_247 := n5_; have NB247_246 := n6_; clear n0_ n1_ n2_ n3_ n4_ n5_ n6_; clear hb hbox hg))
 (try simp only [Act.put, List.setIfInBounds_toArray, List.set_cons_zero, List.set_cons_succ])
 go_cut [29] (fun v29 wc => ∃ (kq : Nat) (x29_2 : Bool), v29 = .bool x29_2 ∧ Aside0 (broadsheetref13_Fits.j0 kq x29_2 a0_0 a0_1 l0_2 a1_0 a1_1 l1_2 = some r) ∧ Aside0 (kq ≤ k) ∧ Aside0 (wc.heap[gb246]? = some (.cells #[.string a0_0, .string a0_1, (.slice A0_2 l0_2.length c0_2)] 40 (0, 0))) ∧ Aside0 (wc.heap[gb247]? = some (.cells #[.string a1_0, .string a1_1, (.slice A1_2 l1_2.length c1_2)] 40 (0, 0))) ∧ Aside0 (Below w.heap.size w wc))
 case first =>
  have H := HC3.out
  clear HC3
  by_cases c6 : a0_0.toList = ([42] : List UInt8)
  ·rw [if_pos c6] at H
   have c6b0 : (a0_0.toList == ([42] : List UInt8)) = true := beq_iff_eq.mpr c6
   have c6b1 : (a0_0.toList != ([42] : List UInt8)) = false := bne_eq_false_iff_eq.mpr c6
   clear c6
   (first | rw [c6b0] | (simp only [i64_w, i32_w]; rw [c6b0]) | skip)
   by_cases c7 : a0_1.toList = ([42] : List UInt8)
   ·rw [if_pos c7] at H
    have c7b0 : (a0_1.toList == ([42] : List UInt8)) = true := beq_iff_eq.mpr c7
    have c7b1 : (a0_1.toList != ([42] : List UInt8)) = false := bne_eq_false_iff_eq.mpr c7
    clear c7
    have H' := Aside0.mk H
    clear H
    have hnb8 := NB246_247.out
    have hnc8 := NB247_246.out
    have hcz9_0 : w5.cell? ⟨gb246, 0, none⟩ = some (.string a0_0) := (blk_cell BK246.out 0).trans rfl
    have hcz9_1 : w5.cell? ⟨gb246, 1, none⟩ = some (.string a0_1) := (blk_cell BK246.out 1).trans rfl
    have hcz9_2 : w5.cell? ⟨gb246, 2, none⟩ = some (.slice A0_2 l0_2.length c0_2) := (blk_cell BK246.out 2).trans rfl
    have hfz9_0 := blk_frozen BK246.out 0
    have hfz9_1 := blk_frozen BK246.out 1
    have hfz9_2 := blk_frozen BK246.out 2
    go_wp2
    go_meet
    case rel => exact ⟨_, (false), zb4, H', ⟨by first | omega | exact Nat.le_refl _⟩, ⟨by (with_reducible repeat (first | refine blk_drewN ?_ _ | refine blk_drew ?_ | refine blk_alloc ?_ _)); exact BK246.out⟩, ⟨by (with_reducible repeat (first | refine blk_drewN ?_ _ | refine blk_drew ?_ | refine blk_alloc ?_ _)); exact BK247.out⟩, ⟨by repeat (first | (with_reducible first | exact HB.out | apply below_alloc | apply pw_below_drewN | apply below_drew1 | refine below_set ?_ GE246.out | refine below_set ?_ GE247.out) | exact HB.out)⟩⟩
   ·rw [if_neg c7] at H
    have c7b0 : (a0_1.toList == ([42] : List UInt8)) = false := beq_eq_false_iff_ne.mpr c7
    have c7b1 : (a0_1.toList != ([42] : List UInt8)) = true := bne_iff_ne.mpr c7
    have H' := Aside0.mk H
    clear H
    have hnb10 := NB246_247.out
    have hnc10 := NB247_246.out
    have hcz11_0 : w5.cell? ⟨gb246, 0, none⟩ = some (.string a0_0) := (blk_cell BK246.out 0).trans rfl
    have hcz11_1 : w5.cell? ⟨gb246, 1, none⟩ = some (.string a0_1) := (blk_cell BK246.out 1).trans rfl
    have hcz11_2 : w5.cell? ⟨gb246, 2, none⟩ = some (.slice A0_2 l0_2.length c0_2) := (blk_cell BK246.out 2).trans rfl
    have hfz11_0 := blk_frozen BK246.out 0
    have hfz11_1 := blk_frozen BK246.out 1
    have hfz11_2 := blk_frozen BK246.out 2
    have hcz12_0 : w5.cell? ⟨gb247, 0, none⟩ = some (.string a1_0) := (blk_cell BK247.out 0).trans rfl
    have hcz12_1 : w5.cell? ⟨gb247, 1, none⟩ = some (.string a1_1) := (blk_cell BK247.out 1).trans rfl
    have hcz12_2 : w5.cell? ⟨gb247, 2, none⟩ = some (.slice A1_2 l1_2.length c1_2) := (blk_cell BK247.out 2).trans rfl
    have hfz12_0 := blk_frozen BK247.out 0
    have hfz12_1 := blk_frozen BK247.out 1
    have hfz12_2 := blk_frozen BK247.out 2
    go_wp2
    go_meet
    case rel => exact ⟨_, ((a0_1.toList != a1_1.toList)), zb4, H', ⟨by first | omega | exact Nat.le_refl _⟩, ⟨by (with_reducible repeat (first | refine blk_drewN ?_ _ | refine blk_drew ?_ | refine blk_alloc ?_ _)); exact BK246.out⟩, ⟨by (with_reducible repeat (first | refine blk_drewN ?_ _ | refine blk_drew ?_ | refine blk_alloc ?_ _)); exact BK247.out⟩, ⟨by repeat (first | (with_reducible first | exact HB.out | apply below_alloc | apply pw_below_drewN | apply below_drew1 | refine below_set ?_ GE246.out | refine below_set ?_ GE247.out) | exact HB.out)⟩⟩
  ·rw [if_neg c6] at H
   have c6b0 : (a0_0.toList == ([42] : List UInt8)) = false := beq_eq_false_iff_ne.mpr c6
   have c6b1 : (a0_0.toList != ([42] : List UInt8)) = true := bne_iff_ne.mpr c6
   (first | rw [c6b0] | (simp only [i64_w, i32_w]; rw [c6b0]) | skip)
   by_cases c13 : a0_0.toList = a1_0.toList
   ·rw [if_pos c13] at H
    have c13b0 : (a0_0.toList == a1_0.toList) = true := beq_iff_eq.mpr c13
    have c13b1 : (a0_0.toList != a1_0.toList) = false := bne_eq_false_iff_eq.mpr c13
    clear c13
    by_cases c14 : a0_1.toList = ([42] : List UInt8)
    ·rw [if_pos c14] at H
     have c14b0 : (a0_1.toList == ([42] : List UInt8)) = true := beq_iff_eq.mpr c14
     have c14b1 : (a0_1.toList != ([42] : List UInt8)) = false := bne_eq_false_iff_eq.mpr c14
     clear c14
     have H' := Aside0.mk H
     clear H
     have hnb15 := NB246_247.out
     have hnc15 := NB247_246.out
     have hcz16_0 : w5.cell? ⟨gb246, 0, none⟩ = some (.string a0_0) := (blk_cell BK246.out 0).trans rfl
     have hcz16_1 : w5.cell? ⟨gb246, 1, none⟩ = some (.string a0_1) := (blk_cell BK246.out 1).trans rfl
     have hcz16_2 : w5.cell? ⟨gb246, 2, none⟩ = some (.slice A0_2 l0_2.length c0_2) := (blk_cell BK246.out 2).trans rfl
     have hfz16_0 := blk_frozen BK246.out 0
     have hfz16_1 := blk_frozen BK246.out 1
     have hfz16_2 := blk_frozen BK246.out 2
     have hcz17_0 : w5.cell? ⟨gb247, 0, none⟩ = some (.string a1_0) := (blk_cell BK247.out 0).trans rfl
     have hcz17_1 : w5.cell? ⟨gb247, 1, none⟩ = some (.string a1_1) := (blk_cell BK247.out 1).trans rfl
     have hcz17_2 : w5.cell? ⟨gb247, 2, none⟩ = some (.slice A1_2 l1_2.length c1_2) := (blk_cell BK247.out 2).trans rfl
     have hfz17_0 := blk_frozen BK247.out 0
     have hfz17_1 := blk_frozen BK247.out 1
     have hfz17_2 := blk_frozen BK247.out 2
     go_wp2
     go_meet
     case rel => exact ⟨_, (false), zb4, H', ⟨by first | omega | exact Nat.le_refl _⟩, ⟨by (with_reducible repeat (first | refine blk_drewN ?_ _ | refine blk_drew ?_ | refine blk_alloc ?_ _)); exact BK246.out⟩, ⟨by (with_reducible repeat (first | refine blk_drewN ?_ _ | refine blk_drew ?_ | refine blk_alloc ?_ _)); exact BK247.out⟩, ⟨by repeat (first | (with_reducible first | exact HB.out | apply below_alloc | apply pw_below_drewN | apply below_drew1 | refine below_set ?_ GE246.out | refine below_set ?_ GE247.out) | exact HB.out)⟩⟩
    ·rw [if_neg c14] at H
     have c14b0 : (a0_1.toList == ([42] : List UInt8)) = false := beq_eq_false_iff_ne.mpr c14
     have c14b1 : (a0_1.toList != ([42] : List UInt8)) = true := bne_iff_ne.mpr c14
     have H' := Aside0.mk H
     clear H
     have hnb18 := NB246_247.out
     have hnc18 := NB247_246.out
     have hcz19_0 : w5.cell? ⟨gb246, 0, none⟩ = some (.string a0_0) := (blk_cell BK246.out 0).trans rfl
     have hcz19_1 : w5.cell? ⟨gb246, 1, none⟩ = some (.string a0_1) := (blk_cell BK246.out 1).trans rfl
     have hcz19_2 : w5.cell? ⟨gb246, 2, none⟩ = some (.slice A0_2 l0_2.length c0_2) := (blk_cell BK246.out 2).trans rfl
     have hfz19_0 := blk_frozen BK246.out 0
     have hfz19_1 := blk_frozen BK246.out 1
     have hfz19_2 := blk_frozen BK246.out 2
     have hcz20_0 : w5.cell? ⟨gb247, 0, none⟩ = some (.string a1_0) := (blk_cell BK247.out 0).trans rfl
     have hcz20_1 : w5.cell? ⟨gb247, 1, none⟩ = some (.string a1_1) := (blk_cell BK247.out 1).trans rfl
     have hcz20_2 : w5.cell? ⟨gb247, 2, none⟩ = some (.slice A1_2 l1_2.length c1_2) := (blk_cell BK247.out 2).trans rfl
     have hfz20_0 := blk_frozen BK247.out 0
     have hfz20_1 := blk_frozen BK247.out 1
     have hfz20_2 := blk_frozen BK247.out 2
     go_wp2
     go_meet
     case rel => exact ⟨_, ((a0_1.toList != a1_1.toList)), zb4, H', ⟨by first | omega | exact Nat.le_refl _⟩, ⟨by (with_reducible repeat (first | refine blk_drewN ?_ _ | refine blk_drew ?_ | refine blk_alloc ?_ _)); exact BK246.out⟩, ⟨by (with_reducible repeat (first | refine blk_drewN ?_ _ | refine blk_drew ?_ | refine blk_alloc ?_ _)); exact BK247.out⟩, ⟨by repeat (first | (with_reducible first | exact HB.out | apply below_alloc | apply pw_below_drewN | apply below_drew1 | refine below_set ?_ GE246.out | refine below_set ?_ GE247.out) | exact HB.out)⟩⟩
   ·rw [if_neg c13] at H
    have c13b0 : (a0_0.toList == a1_0.toList) = false := beq_eq_false_iff_ne.mpr c13
    have c13b1 : (a0_0.toList != a1_0.toList) = true := bne_iff_ne.mpr c13
    have H' := Aside0.mk H
    clear H
    have hnb21 := NB246_247.out
    have hnc21 := NB247_246.out
    have hcz22_0 : w5.cell? ⟨gb246, 0, none⟩ = some (.string a0_0) := (blk_cell BK246.out 0).trans rfl
    have hcz22_1 : w5.cell? ⟨gb246, 1, none⟩ = some (.string a0_1) := (blk_cell BK246.out 1).trans rfl
    have hcz22_2 : w5.cell? ⟨gb246, 2, none⟩ = some (.slice A0_2 l0_2.length c0_2) := (blk_cell BK246.out 2).trans rfl
    have hfz22_0 := blk_frozen BK246.out 0
    have hfz22_1 := blk_frozen BK246.out 1
    have hfz22_2 := blk_frozen BK246.out 2
    have hcz23_0 : w5.cell? ⟨gb247, 0, none⟩ = some (.string a1_0) := (blk_cell BK247.out 0).trans rfl
    have hcz23_1 : w5.cell? ⟨gb247, 1, none⟩ = some (.string a1_1) := (blk_cell BK247.out 1).trans rfl
    have hcz23_2 : w5.cell? ⟨gb247, 2, none⟩ = some (.slice A1_2 l1_2.length c1_2) := (blk_cell BK247.out 2).trans rfl
    have hfz23_0 := blk_frozen BK247.out 0
    have hfz23_1 := blk_frozen BK247.out 1
    have hfz23_2 := blk_frozen BK247.out 2
    go_wp2
    go_meet
    case rel => exact ⟨_, (true), zb4, H', ⟨by first | omega | exact Nat.le_refl _⟩, ⟨by (with_reducible repeat (first | refine blk_drewN ?_ _ | refine blk_drew ?_ | refine blk_alloc ?_ _)); exact BK246.out⟩, ⟨by (with_reducible repeat (first | refine blk_drewN ?_ _ | refine blk_drew ?_ | refine blk_alloc ?_ _)); exact BK247.out⟩, ⟨by repeat (first | (with_reducible first | exact HB.out | apply below_alloc | apply pw_below_drewN | apply below_drew1 | refine below_set ?_ GE246.out | refine below_set ?_ GE247.out) | exact HB.out)⟩⟩
 case rest =>
  clear HC3
  try clear c1
  try clear c2
  try clear p2
  try clear c3
  try clear c6
  try clear c6b0
  try clear c6b1
  try clear c7
  try clear c7b0
  try clear c7b1
  try clear c8
  try clear c10
  try clear c13
  try clear c13b0
  try clear c13b1
  try clear c14
  try clear c14b0
  try clear c14b1
  try clear c15
  try clear c18
  try clear c21
  try clear hcz11_0
  try clear hcz11_1
  try clear hcz11_2
  try clear hcz12_0
  try clear hcz12_1
  try clear hcz12_2
  try clear hcz16_0
  try clear hcz16_1
  try clear hcz16_2
  try clear hcz17_0
  try clear hcz17_1
  try clear hcz17_2
  try clear hcz19_0
  try clear hcz19_1
  try clear hcz19_2
  try clear hcz20_0
  try clear hcz20_1
  try clear hcz20_2
  try clear hcz22_0
  try clear hcz22_1
  try clear hcz22_2
  try clear hcz23_0
  try clear hcz23_1
  try clear hcz23_2
  try clear hcz9_0
  try clear hcz9_1
  try clear hcz9_2
  try clear hfz11_0
  try clear hfz11_1
  try clear hfz11_2
  try clear hfz12_0
  try clear hfz12_1
  try clear hfz12_2
  try clear hfz16_0
  try clear hfz16_1
  try clear hfz16_2
  try clear hfz17_0
  try clear hfz17_1
  try clear hfz17_2
  try clear hfz19_0
  try clear hfz19_1
  try clear hfz19_2
  try clear hfz20_0
  try clear hfz20_1
  try clear hfz20_2
  try clear hfz22_0
  try clear hfz22_1
  try clear hfz22_2
  try clear hfz23_0
  try clear hfz23_1
  try clear hfz23_2
  try clear hfz9_0
  try clear hfz9_1
  try clear hfz9_2
  obtain ⟨kq, x29_2, rfl, HA, HJ2, BK246, BK247, HB⟩ := hcut
  cases kq with
  | zero => exact absurd HA.out (by simp [broadsheetref13_Fits.j0])
  | succ kj2 =>
   have H := HA.out
   clear HA
   simp only [broadsheetref13_Fits.j0] at H
   by_cases c24 : x29_2 = true
   ·subst c24
    replace H : (some false) = some r := by rw [if_pos rfl] at H; exact H
    obtain rfl := Option.some.inj H
    go_wp2
    go_ret
    exact ⟨zb6, zb15⟩
   ·replace c24 := Bool.eq_false_iff.mpr c24
    subst c24
    replace H : (broadsheetref13_Fits.l0 kj2 0 a0_0 a0_1 l0_2 a1_0 a1_1 l1_2) = some r := by rw [if_neg (show ¬ (false = true) by decide)] at H; exact H
    have H' := Aside0.mk H
    clear H
    go_wp2
    first | go_loopg [5] kj2 (fun kq v5 w' => ∃ (x5_2 : Int), v5 = .int .i64 x5_2 ∧ Aside0 (broadsheetref13_Fits.l0 kq x5_2 a0_0 a0_1 l0_2 a1_0 a1_1 l1_2 = some r) ∧ Aside0 (kq ≤ kj2) ∧ Aside0 (w'.heap[gb246]? = some (.cells #[.string a0_0, .string a0_1, (.slice A0_2 l0_2.length c0_2)] 40 (0, 0))) ∧ Aside0 (w'.heap[gb247]? = some (.cells #[.string a1_0, .string a1_1, (.slice A1_2 l1_2.length c1_2)] 40 (0, 0))) ∧ Aside0 (Below w.heap.size w w')) | (go_simp; go_loopg [5] kj2 (fun kq v5 w' => ∃ (x5_2 : Int), v5 = .int .i64 x5_2 ∧ Aside0 (broadsheetref13_Fits.l0 kq x5_2 a0_0 a0_1 l0_2 a1_0 a1_1 l1_2 = some r) ∧ Aside0 (kq ≤ kj2) ∧ Aside0 (w'.heap[gb246]? = some (.cells #[.string a0_0, .string a0_1, (.slice A0_2 l0_2.length c0_2)] 40 (0, 0))) ∧ Aside0 (w'.heap[gb247]? = some (.cells #[.string a1_0, .string a1_1, (.slice A1_2 l1_2.length c1_2)] 40 (0, 0))) ∧ Aside0 (Below w.heap.size w w')))
    case atStart => exact ⟨(0), zb4, H', ⟨Nat.le_refl _⟩, ⟨by (with_reducible repeat (first | refine blk_drewN ?_ _ | refine blk_drew ?_ | refine blk_alloc ?_ _)); exact BK246.out⟩, ⟨by (with_reducible repeat (first | refine blk_drewN ?_ _ | refine blk_drew ?_ | refine blk_alloc ?_ _)); exact BK247.out⟩, ⟨by repeat (first | (with_reducible first | exact HB.out | apply below_alloc | apply pw_below_drewN | apply below_drew1 | refine below_set ?_ GE246.out | refine below_set ?_ GE247.out) | exact HB.out)⟩⟩
    case round =>
     clear H'
     try clear c1
     try clear c2
     try clear p2
     try clear c3
     try clear c6
     try clear c6b0
     try clear c6b1
     try clear c7
     try clear c7b0
     try clear c7b1
     try clear c8
     try clear c10
     try clear c13
     try clear c13b0
     try clear c13b1
     try clear c14
     try clear c14b0
     try clear c14b1
     try clear c15
     try clear c18
     try clear c21
     try clear c24
     try clear hcz11_0
     try clear hcz11_1
     try clear hcz11_2
     try clear hcz12_0
     try clear hcz12_1
     try clear hcz12_2
     try clear hcz16_0
     try clear hcz16_1
     try clear hcz16_2
     try clear hcz17_0
     try clear hcz17_1
     try clear hcz17_2
     try clear hcz19_0
     try clear hcz19_1
     try clear hcz19_2
     try clear hcz20_0
     try clear hcz20_1
     try clear hcz20_2
     try clear hcz22_0
     try clear hcz22_1
     try clear hcz22_2
     try clear hcz23_0
     try clear hcz23_1
     try clear hcz23_2
     try clear hcz9_0
     try clear hcz9_1
     try clear hcz9_2
     try clear hfz11_0
     try clear hfz11_1
     try clear hfz11_2
     try clear hfz12_0
     try clear hfz12_1
     try clear hfz12_2
     try clear hfz16_0
     try clear hfz16_1
     try clear hfz16_2
     try clear hfz17_0
     try clear hfz17_1
     try clear hfz17_2
     try clear hfz19_0
     try clear hfz19_1
     try clear hfz19_2
     try clear hfz20_0
     try clear hfz20_1
     try clear hfz20_2
     try clear hfz22_0
     try clear hfz22_1
     try clear hfz22_2
     try clear hfz23_0
     try clear hfz23_1
     try clear hfz23_2
     try clear hfz9_0
     try clear hfz9_1
     try clear hfz9_2
     try clear p2
     obtain ⟨x5_2, rfl, HA, HK2, BK246, BK247, HB⟩ := hrel
     cases gk with
     | zero => exact absurd HA.out (by simp [broadsheetref13_Fits.l0])
     | succ k2 =>
      have H := HA.out
      clear HA
      simp only [broadsheetref13_Fits.l0] at H
      by_cases c25 : x5_2 < (l0_2.length : Int)
      ·rw [if_pos c25] at H
       have c25b0 : decide (x5_2 < (l0_2.length : Int)) = true := decide_eq_true c25
       clear c25
       by_cases c26 : 0 ≤ x5_2
       ·rw [if_pos c26] at H
        have c26b0 : decide (0 ≤ x5_2) = true := decide_eq_true c26
        clear c26
        by_cases c27 : ((rd_T50 l0_2 x5_2).f0).toList = ([113] : List UInt8)
        ·rw [if_pos c27] at H
         have c27b0 : (((rd_T50 l0_2 x5_2).f0).toList == ([113] : List UInt8)) = true := beq_iff_eq.mpr c27
         have c27b1 : (((rd_T50 l0_2 x5_2).f0).toList != ([113] : List UInt8)) = false := bne_eq_false_iff_eq.mpr c27
         clear c27
         have H' := Aside0.mk H
         clear H
         have hnb28 := NB246_247.out
         have hnc28 := NB247_246.out
         have hcz29_0 : wr.cell? ⟨gb246, 0, none⟩ = some (.string a0_0) := (blk_cell BK246.out 0).trans rfl
         have hcz29_1 : wr.cell? ⟨gb246, 1, none⟩ = some (.string a0_1) := (blk_cell BK246.out 1).trans rfl
         have hcz29_2 : wr.cell? ⟨gb246, 2, none⟩ = some (.slice A0_2 l0_2.length c0_2) := (blk_cell BK246.out 2).trans rfl
         have hfz29_0 := blk_frozen BK246.out 0
         have hfz29_1 := blk_frozen BK246.out 1
         have hfz29_2 := blk_frozen BK246.out 2
         have p248 : 0 ≤ (x5_2 : Int) := of_decide_eq_true zb3
         have q248 : x5_2 < (l0_2.length : Int) := of_decide_eq_true zb3
         obtain ⟨ad248, e248, hx248_0, hx248_1⟩ := at_T50 HR0_2.out x5_2 p248 q248
         cases e248
         replace hx248_0 := (HB.out.cell (World.block_lt_of_cell? w _ hx248_0)).trans hx248_0
         replace hx248_1 := (HB.out.cell (World.block_lt_of_cell? w _ hx248_1)).trans hx248_1
         replace p248 := eq_true p248
         replace q248 := eq_true q248
         go_wp2
         go_roundg k2
         case measure => have := HJ2.out; have := HK2.out; omega
         case rel => exact ⟨(wrap64 (x5_2 + 1)), zb4, H', ⟨by have := HJ2.out; have := HK2.out; omega⟩, ⟨by (with_reducible repeat (first | refine blk_drewN ?_ _ | refine blk_drew ?_ | refine blk_alloc ?_ _)); exact BK246.out⟩, ⟨by (with_reducible repeat (first | refine blk_drewN ?_ _ | refine blk_drew ?_ | refine blk_alloc ?_ _)); exact BK247.out⟩, ⟨by repeat (first | (with_reducible first | exact HB.out | apply below_alloc | apply pw_below_drewN | apply below_drew1 | refine below_set ?_ GE246.out | refine below_set ?_ GE247.out) | exact HB.out)⟩⟩
        ·rw [if_neg c27] at H
         have c27b0 : (((rd_T50 l0_2 x5_2).f0).toList == ([113] : List UInt8)) = false := beq_eq_false_iff_ne.mpr c27
         have c27b1 : (((rd_T50 l0_2 x5_2).f0).toList != ([113] : List UInt8)) = true := bne_iff_ne.mpr c27
         replace H := Option.bind_eq_some_iff.mp H
         obtain ⟨⟨t250, t251⟩, A300, H⟩ := H
         replace H : (if t251 = true then ((broadsheetref07_Lower.f k2 t250).bind fun t252 => ((broadsheetref07_Lower.f k2 ((rd_T50 l0_2 x5_2).f1)).bind fun t254 => (if t252.toList = t254.toList then (broadsheetref13_Fits.l0 k2 (wrap64 (x5_2 + 1)) a0_0 a0_1 l0_2 a1_0 a1_1 l1_2) else (some false)))) else (some false)) = some r := H
         have A30 := Aside0.mk A300
         clear A300
         by_cases c31 : t251 = true
         ·subst c31
          replace H : ((broadsheetref07_Lower.f k2 t250).bind fun t252 => ((broadsheetref07_Lower.f k2 ((rd_T50 l0_2 x5_2).f1)).bind fun t254 => (if t252.toList = t254.toList then (broadsheetref13_Fits.l0 k2 (wrap64 (x5_2 + 1)) a0_0 a0_1 l0_2 a1_0 a1_1 l1_2) else (some false)))) = some r := by rw [if_pos rfl] at H; exact H
          replace H := Option.bind_eq_some_iff.mp H
          obtain ⟨t252, A320, H⟩ := H
          replace H : ((broadsheetref07_Lower.f k2 ((rd_T50 l0_2 x5_2).f1)).bind fun t254 => (if t252.toList = t254.toList then (broadsheetref13_Fits.l0 k2 (wrap64 (x5_2 + 1)) a0_0 a0_1 l0_2 a1_0 a1_1 l1_2) else (some false))) = some r := H
          have A32 := Aside0.mk A320
          clear A320
          replace H := Option.bind_eq_some_iff.mp H
          obtain ⟨t254, A330, H⟩ := H
          replace H : (if t252.toList = t254.toList then (broadsheetref13_Fits.l0 k2 (wrap64 (x5_2 + 1)) a0_0 a0_1 l0_2 a1_0 a1_1 l1_2) else (some false)) = some r := H
          have A33 := Aside0.mk A330
          clear A330
          by_cases c34 : t252.toList = t254.toList
          ·rw [if_pos c34] at H
           have c34b0 : (t252.toList == t254.toList) = true := beq_iff_eq.mpr c34
           have c34b1 : (t252.toList != t254.toList) = false := bne_eq_false_iff_eq.mpr c34
           clear c34
           have H' := Aside0.mk H
           clear H
           have hnb35 := NB246_247.out
           have hnc35 := NB247_246.out
           have hcz36_0 : wr.cell? ⟨gb246, 0, none⟩ = some (.string a0_0) := (blk_cell BK246.out 0).trans rfl
           have hcz36_1 : wr.cell? ⟨gb246, 1, none⟩ = some (.string a0_1) := (blk_cell BK246.out 1).trans rfl
           have hcz36_2 : wr.cell? ⟨gb246, 2, none⟩ = some (.slice A0_2 l0_2.length c0_2) := (blk_cell BK246.out 2).trans rfl
           have hfz36_0 := blk_frozen BK246.out 0
           have hfz36_1 := blk_frozen BK246.out 1
           have hfz36_2 := blk_frozen BK246.out 2
           have p248 : 0 ≤ (x5_2 : Int) := of_decide_eq_true zb3
           have q248 : x5_2 < (l0_2.length : Int) := of_decide_eq_true zb3
           obtain ⟨ad248, e248, hx248_0, hx248_1⟩ := at_T50 HR0_2.out x5_2 p248 q248
           cases e248
           replace hx248_0 := (HB.out.cell (World.block_lt_of_cell? w _ hx248_0)).trans hx248_0
           replace hx248_1 := (HB.out.cell (World.block_lt_of_cell? w _ hx248_1)).trans hx248_1
           replace p248 := eq_true p248
           replace q248 := eq_true q248
           try go_wp2
           have n0_ := Aside0.mk (blk_drew BK246.out)
           have n1_ := Aside0.mk (blk_drew BK247.out)
           have n2_ := Aside0.mk (below_drew1 HB.out)
           clear BK246
           clear BK247
           clear HB
           have BK246 := n0_
           have BK247 := n1_
           have HB := n2_
           clear n0_ n1_ n2_
           have p249 : 0 ≤ (x5_2 : Int) := of_decide_eq_true zb3
           have q249 : x5_2 < (l0_2.length : Int) := of_decide_eq_true zb3
           obtain ⟨ad249, e249, hx249_0, hx249_1⟩ := at_T50 HR0_2.out x5_2 p249 q249
           have hw249_1 := hx249_1
           have hw249_0 := hx249_0
           obtain rfl : ad248 = ad249 := (by injection e249)
           replace hx249_0 := (HB.out.cell (World.block_lt_of_cell? w _ hx249_0)).trans hx249_0
           replace hx249_1 := (HB.out.cell (World.block_lt_of_cell? w _ hx249_1)).trans hx249_1
           replace p249 := eq_true p249
           replace q249 := eq_true q249
           refine start_ (n := 13) (S := fun w' => w'.cell? ⟨gb247, 0, none⟩ = some (.string a1_0) ∧ w'.cell? ⟨gb247, 1, none⟩ = some (.string a1_1) ∧ w'.cell? ⟨gb247, 2, none⟩ = some (.slice A1_2 l1_2.length c1_2) ∧ w'.cell? ⟨gb246, 0, none⟩ = some (.string a0_0) ∧ w'.cell? ⟨gb246, 1, none⟩ = some (.string a0_1) ∧ w'.cell? ⟨gb246, 2, none⟩ = some (.slice (some ad248) l0_2.length c0_2) ∧ w'.cell? (ad248.add ((x5_2).toNat * 2)) = some (.string ((rd_T50 l0_2 x5_2).f0)) ∧ w'.cell? ⟨(ad248.add ((x5_2).toNat * 2)).block, (ad248.add ((x5_2).toNat * 2)).off + 1, none⟩ = some (.string ((rd_T50 l0_2 x5_2).f1))) (ds := []) #[false, false, false, false, false, false, false, false, false, false, false, false, false] zb9 rfl rfl ⟨(blk_cell BK247.out 0).trans rfl, (blk_cell BK247.out 1).trans rfl, (blk_cell BK247.out 2).trans rfl, (blk_cell BK246.out 0).trans rfl, (blk_cell BK246.out 1).trans rfl, (blk_cell BK246.out 2).trans rfl, ((HB.out.cell (World.block_lt_of_cell? w _ hw249_0)).trans hw249_0), ((HB.out.cell (World.block_lt_of_cell? w _ hw249_1)).trans hw249_1)⟩ (fun hHeld => ?_); refine with_tabW broadsheetref13_Fits.tab7 broadsheetref13_Fits.bits7 (fun HT_ HW_ => ?_)
           generalize wr.drew = w37 at BK246 BK247 HB hx249_0 hx249_1 hHeld ⊢
           refine pure_ (i := 1) (N := some 46) (v := ?_) (a' := ?_) #[false, true, false, false, false, false, false, false, false, false, false, false, false] rfl rfl (any_of HT_.out zb9) (fun _ _ _ h => h) (Or.inl ⟨by rfl, ?_⟩) ?_ ?_
           rotate_left
           ·intro w'
            go_simp
            first | with_reducible rfl | (rw [if_neg zb1])
           rotate_left
           ·simp only [Act.put, List.setIfInBounds_toArray, List.set_cons_zero, List.set_cons_succ, i64_w, i32_w]
            rfl
           refine pure_ (i := 3) (N := some 48) (v := ?_) (a' := ?_) #[false, true, false, true, false, false, false, false, false, false, false, false, false] rfl rfl (any_of HT_.out zb9) (fun _ _ _ h => h) (Or.inl ⟨by rfl, ?_⟩) ?_ ?_
           rotate_left
           ·intro w'
            go_simp
            first | with_reducible rfl | (rw [if_neg zb1])
           rotate_left
           ·simp only [Act.put, List.setIfInBounds_toArray, List.set_cons_zero, List.set_cons_succ, i64_w, i32_w]
            rfl
           refine take_ (i := 0) (N := some 45) (v := ?_) (a' := ?_) #[true, true, false, true, false, false, false, false, false, false, false, false, false] rfl rfl (take_ofW HT_.out HW_.out zb9) (fun _ _ _ h => h) (Or.inl ⟨by rfl, ?_⟩) hHeld ?_ ?_
           rotate_left
           ·rintro w' ⟨s0, s1, s2, s3, s4, s5, s6, s7⟩
            go_simp
            first | with_reducible rfl | (rw [if_neg zb1])
           rotate_left
           ·simp only [Act.put, List.setIfInBounds_toArray, List.set_cons_zero, List.set_cons_succ, i64_w, i32_w]
            rfl
           refine take_ (i := 2) (N := some 47) (v := ?_) (a' := ?_) #[true, true, true, true, false, false, false, false, false, false, false, false, false] rfl rfl (take_ofW HT_.out HW_.out zb9) (fun _ _ _ h => h) (Or.inl ⟨by rfl, ?_⟩) hHeld ?_ ?_
           rotate_left
           ·rintro w' ⟨s0, s1, s2, s3, s4, s5, s6, s7⟩
            go_simp
            first | with_reducible rfl | (rw [if_neg zb1])
           rotate_left
           ·simp only [Act.put, List.setIfInBounds_toArray, List.set_cons_zero, List.set_cons_succ, i64_w, i32_w]
            rfl
           refine pure_ (i := 4) (N := some 49) (v := ?_) (a' := ?_) #[true, true, true, true, true, false, false, false, false, false, false, false, false] rfl rfl (any_of HT_.out zb9) (fun _ _ _ h => h) (Or.inl ⟨by rfl, ?_⟩) ?_ ?_
           rotate_left
           ·intro w'
            go_simp
            first | with_reducible rfl | (rw [if_neg zb1])
           rotate_left
           ·simp only [Act.put, List.setIfInBounds_toArray, List.set_cons_zero, List.set_cons_succ, i64_w, i32_w]
            rfl
           refine pure_ (i := 5) (N := some 50) (v := ?_) (a' := ?_) #[true, true, true, true, true, true, false, false, false, false, false, false, false] rfl rfl (any_of HT_.out zb9) (fun _ _ _ h => h) (Or.inl ⟨by rfl, ?_⟩) ?_ ?_
           rotate_left
           ·intro w'
            go_simp
            first | with_reducible rfl | (rw [if_neg zb1])
           rotate_left
           ·simp only [Act.put, List.setIfInBounds_toArray, List.set_cons_zero, List.set_cons_succ, i64_w, i32_w]
            rfl
           refine take_ (i := 6) (N := some 51) (v := ?_) (a' := ?_) #[true, true, true, true, true, true, true, false, false, false, false, false, false] rfl rfl (take_ofW HT_.out HW_.out zb9) (fun _ _ _ h => h) (Or.inl ⟨by rfl, ?_⟩) hHeld ?_ ?_
           rotate_left
           ·rintro w' ⟨s0, s1, s2, s3, s4, s5, s6, s7⟩
            go_simp
            first | with_reducible rfl | (rw [if_neg zb1])
           rotate_left
           ·simp only [Act.put, List.setIfInBounds_toArray, List.set_cons_zero, List.set_cons_succ, i64_w, i32_w]
            rfl
           refine one_ (i := 7) (N := some 52) #[true, true, true, true, true, true, true, true, false, false, false, false, false] rfl rfl (one_of HT_.out zb9) zb47 (fun K hK => ?_)
           refine goes_ Tryz.func34 zb9 rfl #[.agg #[.string a1_0, .string a1_1, .slice A1_2 l1_2.length c1_2], .string ((rd_T50 l0_2 x5_2).f0)] (by rfl) rfl rfl zb2 ?_
           with_reducible refine (broadsheetref13_Param.calls k2 a1_0 a1_1 _ _ l1_2 ((rd_T50 l0_2 x5_2).f0) t250 true _ ?side1 ?side2 A30.out).mono ?_
           (case side1 => repeat (first | exact (Kd.C_below HR1_2.out HB.out) | (with_reducible refine Kd.C_alloc ?_ _) | (with_reducible refine Kd.C_drewN ?_ _) | (with_reducible refine Kd.C_drew ?_)))
           (case side2 => exact HC1_2.out)
           rintro e w38 ⟨rfl, hb⟩
           refine ⟨_, rfl, ?_⟩
           have n0_ := Aside0.mk (blk_below (g := gb246) (o := .cells #[.string a0_0, .string a0_1, .slice (some ad248) l0_2.length c0_2] 40 (0, 0)) zb27 hb)
           have n1_ := Aside0.mk (blk_below (g := gb247) (o := .cells #[.string a1_0, .string a1_1, .slice A1_2 l1_2.length c1_2] 40 (0, 0)) zb36 hb)
           have n2_ := Aside0.mk (below_step zb15 hb)
           clear BK246
           clear BK247
           clear HB
           have BK246 := n0_
           have BK247 := n1_
           have HB := n2_
           clear n0_ n1_ n2_
           (try clear hb)
           (try clear hb2)
           (try clear hk)
           (try clear hi)
           refine hK.out _ _ ⟨(blk_cell BK247.out 0).trans rfl, (blk_cell BK247.out 1).trans rfl, (blk_cell BK247.out 2).trans rfl, (blk_cell BK246.out 0).trans rfl, (blk_cell BK246.out 1).trans rfl, (blk_cell BK246.out 2).trans rfl, ((HB.out.cell (World.block_lt_of_cell? w _ hw249_0)).trans hw249_0), ((HB.out.cell (World.block_lt_of_cell? w _ hw249_1)).trans hw249_1)⟩ (fun hHeld => ?_)
           clear hK K
           refine norm_ (a' := ?_) ?_ ?_
           rotate_left
           ·show Act.put _ (some 52) _ = _
            simp only [Act.put, List.setIfInBounds_toArray, List.set_cons_zero, List.set_cons_succ, i64_w, i32_w]
            rfl
           refine pure_ (i := 8) (N := some 44) (v := ?_) (a' := ?_) #[true, true, true, true, true, true, true, true, true, false, false, false, false] rfl rfl (any_of HT_.out zb9) (fun _ _ _ h => h) (Or.inl ⟨by rfl, ?_⟩) ?_ ?_
           rotate_left
           ·intro w'
            go_simp
            first | with_reducible rfl | (rw [if_neg zb1])
           rotate_left
           ·simp only [Act.put, List.setIfInBounds_toArray, List.set_cons_zero, List.set_cons_succ, i64_w, i32_w]
            rfl
           refine pure_ (i := 9) (N := some 53) (v := ?_) (a' := ?_) #[true, true, true, true, true, true, true, true, true, true, false, false, false] rfl rfl (any_of HT_.out zb9) (fun _ _ _ h => h) (Or.inl ⟨by rfl, ?_⟩) ?_ ?_
           rotate_left
           ·intro w'
            go_simp
            first | with_reducible rfl | (rw [if_neg zb1])
           rotate_left
           ·simp only [Act.put, List.setIfInBounds_toArray, List.set_cons_zero, List.set_cons_succ, i64_w, i32_w]
            rfl
           refine pure_ (i := 10) (N := some 54) (v := ?_) (a' := ?_) #[true, true, true, true, true, true, true, true, true, true, true, false, false] rfl rfl (any_of HT_.out zb9) (fun _ _ _ h => h) (Or.inl ⟨by rfl, ?_⟩) ?_ ?_
           rotate_left
           ·intro w'
            go_simp
            first | with_reducible rfl | (rw [if_neg zb1])
           rotate_left
           ·simp only [Act.put, List.setIfInBounds_toArray, List.set_cons_zero, List.set_cons_succ, i64_w, i32_w]
            rfl
           refine pure_ (i := 11) (N := some 6) (v := ?_) (a' := ?_) #[true, true, true, true, true, true, true, true, true, true, true, true, false] rfl rfl (any_of HT_.out zb9) (fun _ _ _ h => h) (Or.inl ⟨by rfl, ?_⟩) ?_ ?_
           rotate_left
           ·intro w'
            go_simp
            first | with_reducible rfl | (rw [if_neg zb1])
           rotate_left
           ·simp only [Act.put, List.setIfInBounds_toArray, List.set_cons_zero, List.set_cons_succ, i64_w, i32_w]
            rfl
           refine pure_ (i := 12) (N := some 7) (v := ?_) (a' := ?_) #[true, true, true, true, true, true, true, true, true, true, true, true, true] rfl rfl (any_of HT_.out zb9) (fun _ _ _ h => h) (Or.inl ⟨by rfl, ?_⟩) ?_ ?_
           rotate_left
           ·intro w'
            go_simp
            first | with_reducible rfl | (rw [if_neg zb1])
           rotate_left
           ·simp only [Act.put, List.setIfInBounds_toArray, List.set_cons_zero, List.set_cons_succ, i64_w, i32_w]
            rfl
           refine done_ (done_of HT_.out zb9) ?_
           try go_wp2
           have n0_ := Aside0.mk (blk_drew BK246.out)
           have n1_ := Aside0.mk (blk_drew BK247.out)
           have n2_ := Aside0.mk (below_drew1 HB.out)
           clear BK246
           clear BK247
           clear HB
           have BK246 := n0_
           have BK247 := n1_
           have HB := n2_
           clear n0_ n1_ n2_
           have p253 : 0 ≤ (x5_2 : Int) := of_decide_eq_true zb3
           have q253 : x5_2 < (l0_2.length : Int) := of_decide_eq_true zb3
           obtain ⟨ad253, e253, hx253_0, hx253_1⟩ := at_T50 HR0_2.out x5_2 p253 q253
           have hw253_1 := hx253_1
           have hw253_0 := hx253_0
           obtain rfl : ad248 = ad253 := (by injection e253)
           replace hx253_0 := (HB.out.cell (World.block_lt_of_cell? w _ hx253_0)).trans hx253_0
           replace hx253_1 := (HB.out.cell (World.block_lt_of_cell? w _ hx253_1)).trans hx253_1
           replace p253 := eq_true p253
           replace q253 := eq_true q253
           refine start_ (n := 14) (S := fun w' => w'.cell? ⟨gb246, 0, none⟩ = some (.string a0_0) ∧ w'.cell? ⟨gb246, 1, none⟩ = some (.string a0_1) ∧ w'.cell? ⟨gb246, 2, none⟩ = some (.slice (some ad248) l0_2.length c0_2) ∧ w'.cell? (ad248.add ((x5_2).toNat * 2)) = some (.string ((rd_T50 l0_2 x5_2).f0)) ∧ w'.cell? ⟨(ad248.add ((x5_2).toNat * 2)).block, (ad248.add ((x5_2).toNat * 2)).off + 1, none⟩ = some (.string ((rd_T50 l0_2 x5_2).f1))) (ds := []) #[false, false, false, false, false, false, false, false, false, false, false, false, false, false] zb9 rfl rfl ⟨(blk_cell BK246.out 0).trans rfl, (blk_cell BK246.out 1).trans rfl, (blk_cell BK246.out 2).trans rfl, ((HB.out.cell (World.block_lt_of_cell? w _ hw253_0)).trans hw253_0), ((HB.out.cell (World.block_lt_of_cell? w _ hw253_1)).trans hw253_1)⟩ (fun hHeld => ?_); refine with_tabW broadsheetref13_Fits.tab8 broadsheetref13_Fits.bits8 (fun HT_ HW_ => ?_)
           generalize w38.drew = w39 at BK246 BK247 HB hx253_0 hx253_1 hHeld ⊢
           refine pure_ (i := 0) (N := some 55) (v := ?_) (a' := ?_) #[true, false, false, false, false, false, false, false, false, false, false, false, false, false] rfl rfl (any_of HT_.out zb9) (fun _ _ _ h => h) (Or.inl ⟨by rfl, ?_⟩) ?_ ?_
           rotate_left
           ·intro w'
            go_simp
            first | with_reducible rfl | (rw [if_neg zb1])
           rotate_left
           ·simp only [Act.put, List.setIfInBounds_toArray, List.set_cons_zero, List.set_cons_succ, i64_w, i32_w]
            rfl
           refine pure_ (i := 1) (N := some 56) (v := ?_) (a' := ?_) #[true, true, false, false, false, false, false, false, false, false, false, false, false, false] rfl rfl (any_of HT_.out zb9) (fun _ _ _ h => h) (Or.inl ⟨by rfl, ?_⟩) ?_ ?_
           rotate_left
           ·intro w'
            go_simp
            first | with_reducible rfl | (rw [if_neg zb1])
           rotate_left
           ·simp only [Act.put, List.setIfInBounds_toArray, List.set_cons_zero, List.set_cons_succ, i64_w, i32_w]
            rfl
           refine pure_ (i := 2) (N := some 57) (v := ?_) (a' := ?_) #[true, true, true, false, false, false, false, false, false, false, false, false, false, false] rfl rfl (any_of HT_.out zb9) (fun _ _ _ h => h) (Or.inl ⟨by rfl, ?_⟩) ?_ ?_
           rotate_left
           ·intro w'
            go_simp
            first | with_reducible rfl | (rw [if_neg zb1])
           rotate_left
           ·simp only [Act.put, List.setIfInBounds_toArray, List.set_cons_zero, List.set_cons_succ, i64_w, i32_w]
            rfl
           refine pure_ (i := 3) (N := some 58) (v := ?_) (a' := ?_) #[true, true, true, true, false, false, false, false, false, false, false, false, false, false] rfl rfl (any_of HT_.out zb9) (fun _ _ _ h => h) (Or.inl ⟨by rfl, ?_⟩) ?_ ?_
           rotate_left
           ·intro w'
            go_simp
            first | with_reducible rfl | (rw [if_neg zb1])
           rotate_left
           ·simp only [Act.put, List.setIfInBounds_toArray, List.set_cons_zero, List.set_cons_succ, i64_w, i32_w]
            rfl
           refine pure_ (i := 5) (N := some 60) (v := ?_) (a' := ?_) #[true, true, true, true, false, true, false, false, false, false, false, false, false, false] rfl rfl (any_of HT_.out zb9) (fun _ _ _ h => h) (Or.inl ⟨by rfl, ?_⟩) ?_ ?_
           rotate_left
           ·intro w'
            go_simp
            first | with_reducible rfl | (rw [if_neg zb1])
           rotate_left
           ·simp only [Act.put, List.setIfInBounds_toArray, List.set_cons_zero, List.set_cons_succ, i64_w, i32_w]
            rfl
           refine pure_ (i := 7) (N := some 62) (v := ?_) (a' := ?_) #[true, true, true, true, false, true, false, true, false, false, false, false, false, false] rfl rfl (any_of HT_.out zb9) (fun _ _ _ h => h) (Or.inl ⟨by rfl, ?_⟩) ?_ ?_
           rotate_left
           ·intro w'
            go_simp
            first | with_reducible rfl | (rw [if_neg zb1])
           rotate_left
           ·simp only [Act.put, List.setIfInBounds_toArray, List.set_cons_zero, List.set_cons_succ, i64_w, i32_w]
            rfl
           refine take_ (i := 6) (N := some 61) (v := ?_) (a' := ?_) #[true, true, true, true, false, true, true, true, false, false, false, false, false, false] rfl rfl (take_ofW HT_.out HW_.out zb9) (fun _ _ _ h => h) (Or.inl ⟨by rfl, ?_⟩) hHeld ?_ ?_
           rotate_left
           ·rintro w' ⟨s0, s1, s2, s3, s4⟩
            go_simp
            first | with_reducible rfl | (rw [if_neg zb1])
           rotate_left
           ·simp only [Act.put, List.setIfInBounds_toArray, List.set_cons_zero, List.set_cons_succ, i64_w, i32_w]
            rfl
           refine pure_ (i := 8) (N := some 63) (v := ?_) (a' := ?_) #[true, true, true, true, false, true, true, true, true, false, false, false, false, false] rfl rfl (any_of HT_.out zb9) (fun _ _ _ h => h) (Or.inl ⟨by rfl, ?_⟩) ?_ ?_
           rotate_left
           ·intro w'
            go_simp
            first | with_reducible rfl | (rw [if_neg zb1])
           rotate_left
           ·simp only [Act.put, List.setIfInBounds_toArray, List.set_cons_zero, List.set_cons_succ, i64_w, i32_w]
            rfl
           refine pure_ (i := 9) (N := some 64) (v := ?_) (a' := ?_) #[true, true, true, true, false, true, true, true, true, true, false, false, false, false] rfl rfl (any_of HT_.out zb9) (fun _ _ _ h => h) (Or.inl ⟨by rfl, ?_⟩) ?_ ?_
           rotate_left
           ·intro w'
            go_simp
            first | with_reducible rfl | (rw [if_neg zb1])
           rotate_left
           ·simp only [Act.put, List.setIfInBounds_toArray, List.set_cons_zero, List.set_cons_succ, i64_w, i32_w]
            rfl
           refine take_ (i := 10) (N := some 65) (v := ?_) (a' := ?_) #[true, true, true, true, false, true, true, true, true, true, true, false, false, false] rfl rfl (take_ofW HT_.out HW_.out zb9) (fun _ _ _ h => h) (Or.inl ⟨by rfl, ?_⟩) hHeld ?_ ?_
           rotate_left
           ·rintro w' ⟨s0, s1, s2, s3, s4⟩
            go_simp
            first | with_reducible rfl | (rw [if_neg zb1])
           rotate_left
           ·simp only [Act.put, List.setIfInBounds_toArray, List.set_cons_zero, List.set_cons_succ, i64_w, i32_w]
            rfl
           refine one_ (i := 4) (N := some 59) #[true, true, true, true, true, true, true, true, true, true, true, false, false, false] rfl rfl (one_of HT_.out zb9) zb47 (fun K hK => ?_)
           refine goes_ Tryz.func57 zb9 rfl #[.string t250] (by rfl) rfl rfl zb2 ?_
           with_reducible refine (broadsheetref07_Lower.calls k2 t250 t252 _ A32.out).mono ?_
           rintro e w40 ⟨rfl, hb⟩
           refine ⟨_, rfl, ?_⟩
           have n0_ := Aside0.mk (blk_below (g := gb246) (o := .cells #[.string a0_0, .string a0_1, .slice (some ad248) l0_2.length c0_2] 40 (0, 0)) zb27 hb)
           have n1_ := Aside0.mk (blk_below (g := gb247) (o := .cells #[.string a1_0, .string a1_1, .slice A1_2 l1_2.length c1_2] 40 (0, 0)) zb36 hb)
           have n2_ := Aside0.mk (below_step zb15 hb)
           clear BK246
           clear BK247
           clear HB
           have BK246 := n0_
           have BK247 := n1_
           have HB := n2_
           clear n0_ n1_ n2_
           (try clear hb)
           (try clear hb2)
           (try clear hk)
           (try clear hi)
           refine hK.out _ _ ⟨(blk_cell BK246.out 0).trans rfl, (blk_cell BK246.out 1).trans rfl, (blk_cell BK246.out 2).trans rfl, ((HB.out.cell (World.block_lt_of_cell? w _ hw253_0)).trans hw253_0), ((HB.out.cell (World.block_lt_of_cell? w _ hw253_1)).trans hw253_1)⟩ (fun hHeld => ?_)
           clear hK K
           refine norm_ (a' := ?_) ?_ ?_
           rotate_left
           ·show Act.put _ (some 59) _ = _
            simp only [Act.put, List.setIfInBounds_toArray, List.set_cons_zero, List.set_cons_succ, i64_w, i32_w]
            rfl
           refine one_ (i := 11) (N := some 66) #[true, true, true, true, true, true, true, true, true, true, true, true, false, false] rfl rfl (one_of HT_.out zb9) zb47 (fun K hK => ?_)
           refine goes_ Tryz.func57 zb9 rfl #[.string ((rd_T50 l0_2 x5_2).f1)] (by rfl) rfl rfl zb2 ?_
           with_reducible refine (broadsheetref07_Lower.calls k2 ((rd_T50 l0_2 x5_2).f1) t254 _ A33.out).mono ?_
           rintro e w41 ⟨rfl, hb⟩
           refine ⟨_, rfl, ?_⟩
           have n0_ := Aside0.mk (blk_below (g := gb246) (o := .cells #[.string a0_0, .string a0_1, .slice (some ad248) l0_2.length c0_2] 40 (0, 0)) zb27 hb)
           have n1_ := Aside0.mk (blk_below (g := gb247) (o := .cells #[.string a1_0, .string a1_1, .slice A1_2 l1_2.length c1_2] 40 (0, 0)) zb36 hb)
           have n2_ := Aside0.mk (below_step zb15 hb)
           clear BK246
           clear BK247
           clear HB
           have BK246 := n0_
           have BK247 := n1_
           have HB := n2_
           clear n0_ n1_ n2_
           (try clear hb)
           (try clear hb2)
           (try clear hk)
           (try clear hi)
           refine hK.out _ _ ⟨(blk_cell BK246.out 0).trans rfl, (blk_cell BK246.out 1).trans rfl, (blk_cell BK246.out 2).trans rfl, ((HB.out.cell (World.block_lt_of_cell? w _ hw253_0)).trans hw253_0), ((HB.out.cell (World.block_lt_of_cell? w _ hw253_1)).trans hw253_1)⟩ (fun hHeld => ?_)
           clear hK K
           refine norm_ (a' := ?_) ?_ ?_
           rotate_left
           ·show Act.put _ (some 66) _ = _
            simp only [Act.put, List.setIfInBounds_toArray, List.set_cons_zero, List.set_cons_succ, i64_w, i32_w]
            rfl
           refine pure_ (i := 12) (N := some 67) (v := ?_) (a' := ?_) #[true, true, true, true, true, true, true, true, true, true, true, true, true, false] rfl rfl (any_of HT_.out zb9) (fun _ _ _ h => h) (Or.inl ⟨by rfl, ?_⟩) ?_ ?_
           rotate_left
           ·intro w'
            go_simp
            first | with_reducible rfl | (rw [if_neg zb1])
           rotate_left
           ·simp only [Act.put, List.setIfInBounds_toArray, List.set_cons_zero, List.set_cons_succ, i64_w, i32_w]
            rfl
           refine pure_ (i := 13) (N := some 68) (v := ?_) (a' := ?_) #[true, true, true, true, true, true, true, true, true, true, true, true, true, true] rfl rfl (any_of HT_.out zb9) (fun _ _ _ h => h) (Or.inl ⟨by rfl, ?_⟩) ?_ ?_
           rotate_left
           ·intro w'
            go_simp
            first | with_reducible rfl | (rw [if_neg zb1])
           rotate_left
           ·simp only [Act.put, List.setIfInBounds_toArray, List.set_cons_zero, List.set_cons_succ, i64_w, i32_w]
            rfl
           refine done_ (done_of HT_.out zb9) ?_
           try go_wp2
           go_roundg k2
           case measure => have := HJ2.out; have := HK2.out; omega
           case rel => exact ⟨(wrap64 (x5_2 + 1)), zb4, H', ⟨by have := HJ2.out; have := HK2.out; omega⟩, ⟨by (with_reducible repeat (first | refine blk_drewN ?_ _ | refine blk_drew ?_ | refine blk_alloc ?_ _)); exact BK246.out⟩, ⟨by (with_reducible repeat (first | refine blk_drewN ?_ _ | refine blk_drew ?_ | refine blk_alloc ?_ _)); exact BK247.out⟩, ⟨by repeat (first | (with_reducible first | exact HB.out | apply below_alloc | apply pw_below_drewN | apply below_drew1 | refine below_set ?_ GE246.out | refine below_set ?_ GE247.out) | exact HB.out)⟩⟩
          ·rw [if_neg c34] at H
           have c34b0 : (t252.toList == t254.toList) = false := beq_eq_false_iff_ne.mpr c34
           have c34b1 : (t252.toList != t254.toList) = true := bne_iff_ne.mpr c34
           obtain rfl := Option.some.inj H
           have hnb42 := NB246_247.out
           have hnc42 := NB247_246.out
           have hcz43_0 : wr.cell? ⟨gb246, 0, none⟩ = some (.string a0_0) := (blk_cell BK246.out 0).trans rfl
           have hcz43_1 : wr.cell? ⟨gb246, 1, none⟩ = some (.string a0_1) := (blk_cell BK246.out 1).trans rfl
           have hcz43_2 : wr.cell? ⟨gb246, 2, none⟩ = some (.slice A0_2 l0_2.length c0_2) := (blk_cell BK246.out 2).trans rfl
           have hfz43_0 := blk_frozen BK246.out 0
           have hfz43_1 := blk_frozen BK246.out 1
           have hfz43_2 := blk_frozen BK246.out 2
           have p248 : 0 ≤ (x5_2 : Int) := of_decide_eq_true zb3
           have q248 : x5_2 < (l0_2.length : Int) := of_decide_eq_true zb3
           obtain ⟨ad248, e248, hx248_0, hx248_1⟩ := at_T50 HR0_2.out x5_2 p248 q248
           cases e248
           replace hx248_0 := (HB.out.cell (World.block_lt_of_cell? w _ hx248_0)).trans hx248_0
           replace hx248_1 := (HB.out.cell (World.block_lt_of_cell? w _ hx248_1)).trans hx248_1
           replace p248 := eq_true p248
           replace q248 := eq_true q248
           try go_wp2
           have n0_ := Aside0.mk (blk_drew BK246.out)
           have n1_ := Aside0.mk (blk_drew BK247.out)
           have n2_ := Aside0.mk (below_drew1 HB.out)
           clear BK246
           clear BK247
           clear HB
           have BK246 := n0_
           have BK247 := n1_
           have HB := n2_
           clear n0_ n1_ n2_
           have p249 : 0 ≤ (x5_2 : Int) := of_decide_eq_true zb3
           have q249 : x5_2 < (l0_2.length : Int) := of_decide_eq_true zb3
           obtain ⟨ad249, e249, hx249_0, hx249_1⟩ := at_T50 HR0_2.out x5_2 p249 q249
           have hw249_1 := hx249_1
           have hw249_0 := hx249_0
           obtain rfl : ad248 = ad249 := (by injection e249)
           replace hx249_0 := (HB.out.cell (World.block_lt_of_cell? w _ hx249_0)).trans hx249_0
           replace hx249_1 := (HB.out.cell (World.block_lt_of_cell? w _ hx249_1)).trans hx249_1
           replace p249 := eq_true p249
           replace q249 := eq_true q249
           refine start_ (n := 13) (S := fun w' => w'.cell? ⟨gb247, 0, none⟩ = some (.string a1_0) ∧ w'.cell? ⟨gb247, 1, none⟩ = some (.string a1_1) ∧ w'.cell? ⟨gb247, 2, none⟩ = some (.slice A1_2 l1_2.length c1_2) ∧ w'.cell? ⟨gb246, 0, none⟩ = some (.string a0_0) ∧ w'.cell? ⟨gb246, 1, none⟩ = some (.string a0_1) ∧ w'.cell? ⟨gb246, 2, none⟩ = some (.slice (some ad248) l0_2.length c0_2) ∧ w'.cell? (ad248.add ((x5_2).toNat * 2)) = some (.string ((rd_T50 l0_2 x5_2).f0)) ∧ w'.cell? ⟨(ad248.add ((x5_2).toNat * 2)).block, (ad248.add ((x5_2).toNat * 2)).off + 1, none⟩ = some (.string ((rd_T50 l0_2 x5_2).f1))) (ds := []) #[false, false, false, false, false, false, false, false, false, false, false, false, false] zb9 rfl rfl ⟨(blk_cell BK247.out 0).trans rfl, (blk_cell BK247.out 1).trans rfl, (blk_cell BK247.out 2).trans rfl, (blk_cell BK246.out 0).trans rfl, (blk_cell BK246.out 1).trans rfl, (blk_cell BK246.out 2).trans rfl, ((HB.out.cell (World.block_lt_of_cell? w _ hw249_0)).trans hw249_0), ((HB.out.cell (World.block_lt_of_cell? w _ hw249_1)).trans hw249_1)⟩ (fun hHeld => ?_); refine with_tabW broadsheetref13_Fits.tab7 broadsheetref13_Fits.bits7 (fun HT_ HW_ => ?_)
           generalize wr.drew = w44 at BK246 BK247 HB hx249_0 hx249_1 hHeld ⊢
           refine pure_ (i := 1) (N := some 46) (v := ?_) (a' := ?_) #[false, true, false, false, false, false, false, false, false, false, false, false, false] rfl rfl (any_of HT_.out zb9) (fun _ _ _ h => h) (Or.inl ⟨by rfl, ?_⟩) ?_ ?_
           rotate_left
           ·intro w'
            go_simp
            first | with_reducible rfl | (rw [if_neg zb1])
           rotate_left
           ·simp only [Act.put, List.setIfInBounds_toArray, List.set_cons_zero, List.set_cons_succ, i64_w, i32_w]
            rfl
           refine pure_ (i := 3) (N := some 48) (v := ?_) (a' := ?_) #[false, true, false, true, false, false, false, false, false, false, false, false, false] rfl rfl (any_of HT_.out zb9) (fun _ _ _ h => h) (Or.inl ⟨by rfl, ?_⟩) ?_ ?_
           rotate_left
           ·intro w'
            go_simp
            first | with_reducible rfl | (rw [if_neg zb1])
           rotate_left
           ·simp only [Act.put, List.setIfInBounds_toArray, List.set_cons_zero, List.set_cons_succ, i64_w, i32_w]
            rfl
           refine take_ (i := 0) (N := some 45) (v := ?_) (a' := ?_) #[true, true, false, true, false, false, false, false, false, false, false, false, false] rfl rfl (take_ofW HT_.out HW_.out zb9) (fun _ _ _ h => h) (Or.inl ⟨by rfl, ?_⟩) hHeld ?_ ?_
           rotate_left
           ·rintro w' ⟨s0, s1, s2, s3, s4, s5, s6, s7⟩
            go_simp
            first | with_reducible rfl | (rw [if_neg zb1])
           rotate_left
           ·simp only [Act.put, List.setIfInBounds_toArray, List.set_cons_zero, List.set_cons_succ, i64_w, i32_w]
            rfl
           refine take_ (i := 2) (N := some 47) (v := ?_) (a' := ?_) #[true, true, true, true, false, false, false, false, false, false, false, false, false] rfl rfl (take_ofW HT_.out HW_.out zb9) (fun _ _ _ h => h) (Or.inl ⟨by rfl, ?_⟩) hHeld ?_ ?_
           rotate_left
           ·rintro w' ⟨s0, s1, s2, s3, s4, s5, s6, s7⟩
            go_simp
            first | with_reducible rfl | (rw [if_neg zb1])
           rotate_left
           ·simp only [Act.put, List.setIfInBounds_toArray, List.set_cons_zero, List.set_cons_succ, i64_w, i32_w]
            rfl
           refine pure_ (i := 4) (N := some 49) (v := ?_) (a' := ?_) #[true, true, true, true, true, false, false, false, false, false, false, false, false] rfl rfl (any_of HT_.out zb9) (fun _ _ _ h => h) (Or.inl ⟨by rfl, ?_⟩) ?_ ?_
           rotate_left
           ·intro w'
            go_simp
            first | with_reducible rfl | (rw [if_neg zb1])
           rotate_left
           ·simp only [Act.put, List.setIfInBounds_toArray, List.set_cons_zero, List.set_cons_succ, i64_w, i32_w]
            rfl
           refine pure_ (i := 5) (N := some 50) (v := ?_) (a' := ?_) #[true, true, true, true, true, true, false, false, false, false, false, false, false] rfl rfl (any_of HT_.out zb9) (fun _ _ _ h => h) (Or.inl ⟨by rfl, ?_⟩) ?_ ?_
           rotate_left
           ·intro w'
            go_simp
            first | with_reducible rfl | (rw [if_neg zb1])
           rotate_left
           ·simp only [Act.put, List.setIfInBounds_toArray, List.set_cons_zero, List.set_cons_succ, i64_w, i32_w]
            rfl
           refine take_ (i := 6) (N := some 51) (v := ?_) (a' := ?_) #[true, true, true, true, true, true, true, false, false, false, false, false, false] rfl rfl (take_ofW HT_.out HW_.out zb9) (fun _ _ _ h => h) (Or.inl ⟨by rfl, ?_⟩) hHeld ?_ ?_
           rotate_left
           ·rintro w' ⟨s0, s1, s2, s3, s4, s5, s6, s7⟩
            go_simp
            first | with_reducible rfl | (rw [if_neg zb1])
           rotate_left
           ·simp only [Act.put, List.setIfInBounds_toArray, List.set_cons_zero, List.set_cons_succ, i64_w, i32_w]
            rfl
           refine one_ (i := 7) (N := some 52) #[true, true, true, true, true, true, true, true, false, false, false, false, false] rfl rfl (one_of HT_.out zb9) zb47 (fun K hK => ?_)
           refine goes_ Tryz.func34 zb9 rfl #[.agg #[.string a1_0, .string a1_1, .slice A1_2 l1_2.length c1_2], .string ((rd_T50 l0_2 x5_2).f0)] (by rfl) rfl rfl zb2 ?_
           with_reducible refine (broadsheetref13_Param.calls k2 a1_0 a1_1 _ _ l1_2 ((rd_T50 l0_2 x5_2).f0) t250 true _ ?side1 ?side2 A30.out).mono ?_
           (case side1 => repeat (first | exact (Kd.C_below HR1_2.out HB.out) | (with_reducible refine Kd.C_alloc ?_ _) | (with_reducible refine Kd.C_drewN ?_ _) | (with_reducible refine Kd.C_drew ?_)))
           (case side2 => exact HC1_2.out)
           rintro e w45 ⟨rfl, hb⟩
           refine ⟨_, rfl, ?_⟩
           have n0_ := Aside0.mk (blk_below (g := gb246) (o := .cells #[.string a0_0, .string a0_1, .slice (some ad248) l0_2.length c0_2] 40 (0, 0)) zb27 hb)
           have n1_ := Aside0.mk (blk_below (g := gb247) (o := .cells #[.string a1_0, .string a1_1, .slice A1_2 l1_2.length c1_2] 40 (0, 0)) zb36 hb)
           have n2_ := Aside0.mk (below_step zb15 hb)
           clear BK246
           clear BK247
           clear HB
           have BK246 := n0_
           have BK247 := n1_
           have HB := n2_
           clear n0_ n1_ n2_
           (try clear hb)
           (try clear hb2)
           (try clear hk)
           (try clear hi)
           refine hK.out _ _ ⟨(blk_cell BK247.out 0).trans rfl, (blk_cell BK247.out 1).trans rfl, (blk_cell BK247.out 2).trans rfl, (blk_cell BK246.out 0).trans rfl, (blk_cell BK246.out 1).trans rfl, (blk_cell BK246.out 2).trans rfl, ((HB.out.cell (World.block_lt_of_cell? w _ hw249_0)).trans hw249_0), ((HB.out.cell (World.block_lt_of_cell? w _ hw249_1)).trans hw249_1)⟩ (fun hHeld => ?_)
           clear hK K
           refine norm_ (a' := ?_) ?_ ?_
           rotate_left
           ·show Act.put _ (some 52) _ = _
            simp only [Act.put, List.setIfInBounds_toArray, List.set_cons_zero, List.set_cons_succ, i64_w, i32_w]
            rfl
           refine pure_ (i := 8) (N := some 44) (v := ?_) (a' := ?_) #[true, true, true, true, true, true, true, true, true, false, false, false, false] rfl rfl (any_of HT_.out zb9) (fun _ _ _ h => h) (Or.inl ⟨by rfl, ?_⟩) ?_ ?_
           rotate_left
           ·intro w'
            go_simp
            first | with_reducible rfl | (rw [if_neg zb1])
           rotate_left
           ·simp only [Act.put, List.setIfInBounds_toArray, List.set_cons_zero, List.set_cons_succ, i64_w, i32_w]
            rfl
           refine pure_ (i := 9) (N := some 53) (v := ?_) (a' := ?_) #[true, true, true, true, true, true, true, true, true, true, false, false, false] rfl rfl (any_of HT_.out zb9) (fun _ _ _ h => h) (Or.inl ⟨by rfl, ?_⟩) ?_ ?_
           rotate_left
           ·intro w'
            go_simp
            first | with_reducible rfl | (rw [if_neg zb1])
           rotate_left
           ·simp only [Act.put, List.setIfInBounds_toArray, List.set_cons_zero, List.set_cons_succ, i64_w, i32_w]
            rfl
           refine pure_ (i := 10) (N := some 54) (v := ?_) (a' := ?_) #[true, true, true, true, true, true, true, true, true, true, true, false, false] rfl rfl (any_of HT_.out zb9) (fun _ _ _ h => h) (Or.inl ⟨by rfl, ?_⟩) ?_ ?_
           rotate_left
           ·intro w'
            go_simp
            first | with_reducible rfl | (rw [if_neg zb1])
           rotate_left
           ·simp only [Act.put, List.setIfInBounds_toArray, List.set_cons_zero, List.set_cons_succ, i64_w, i32_w]
            rfl
           refine pure_ (i := 11) (N := some 6) (v := ?_) (a' := ?_) #[true, true, true, true, true, true, true, true, true, true, true, true, false] rfl rfl (any_of HT_.out zb9) (fun _ _ _ h => h) (Or.inl ⟨by rfl, ?_⟩) ?_ ?_
           rotate_left
           ·intro w'
            go_simp
            first | with_reducible rfl | (rw [if_neg zb1])
           rotate_left
           ·simp only [Act.put, List.setIfInBounds_toArray, List.set_cons_zero, List.set_cons_succ, i64_w, i32_w]
            rfl
           refine pure_ (i := 12) (N := some 7) (v := ?_) (a' := ?_) #[true, true, true, true, true, true, true, true, true, true, true, true, true] rfl rfl (any_of HT_.out zb9) (fun _ _ _ h => h) (Or.inl ⟨by rfl, ?_⟩) ?_ ?_
           rotate_left
           ·intro w'
            go_simp
            first | with_reducible rfl | (rw [if_neg zb1])
           rotate_left
           ·simp only [Act.put, List.setIfInBounds_toArray, List.set_cons_zero, List.set_cons_succ, i64_w, i32_w]
            rfl
           refine done_ (done_of HT_.out zb9) ?_
           try go_wp2
           have n0_ := Aside0.mk (blk_drew BK246.out)
           have n1_ := Aside0.mk (blk_drew BK247.out)
           have n2_ := Aside0.mk (below_drew1 HB.out)
           clear BK246
           clear BK247
           clear HB
           have BK246 := n0_
           have BK247 := n1_
           have HB := n2_
           clear n0_ n1_ n2_
           have p253 : 0 ≤ (x5_2 : Int) := of_decide_eq_true zb3
           have q253 : x5_2 < (l0_2.length : Int) := of_decide_eq_true zb3
           obtain ⟨ad253, e253, hx253_0, hx253_1⟩ := at_T50 HR0_2.out x5_2 p253 q253
           have hw253_1 := hx253_1
           have hw253_0 := hx253_0
           obtain rfl : ad248 = ad253 := (by injection e253)
           replace hx253_0 := (HB.out.cell (World.block_lt_of_cell? w _ hx253_0)).trans hx253_0
           replace hx253_1 := (HB.out.cell (World.block_lt_of_cell? w _ hx253_1)).trans hx253_1
           replace p253 := eq_true p253
           replace q253 := eq_true q253
           refine start_ (n := 14) (S := fun w' => w'.cell? ⟨gb246, 0, none⟩ = some (.string a0_0) ∧ w'.cell? ⟨gb246, 1, none⟩ = some (.string a0_1) ∧ w'.cell? ⟨gb246, 2, none⟩ = some (.slice (some ad248) l0_2.length c0_2) ∧ w'.cell? (ad248.add ((x5_2).toNat * 2)) = some (.string ((rd_T50 l0_2 x5_2).f0)) ∧ w'.cell? ⟨(ad248.add ((x5_2).toNat * 2)).block, (ad248.add ((x5_2).toNat * 2)).off + 1, none⟩ = some (.string ((rd_T50 l0_2 x5_2).f1))) (ds := []) #[false, false, false, false, false, false, false, false, false, false, false, false, false, false] zb9 rfl rfl ⟨(blk_cell BK246.out 0).trans rfl, (blk_cell BK246.out 1).trans rfl, (blk_cell BK246.out 2).trans rfl, ((HB.out.cell (World.block_lt_of_cell? w _ hw253_0)).trans hw253_0), ((HB.out.cell (World.block_lt_of_cell? w _ hw253_1)).trans hw253_1)⟩ (fun hHeld => ?_); refine with_tabW broadsheetref13_Fits.tab8 broadsheetref13_Fits.bits8 (fun HT_ HW_ => ?_)
           generalize w45.drew = w46 at BK246 BK247 HB hx253_0 hx253_1 hHeld ⊢
           refine pure_ (i := 0) (N := some 55) (v := ?_) (a' := ?_) #[true, false, false, false, false, false, false, false, false, false, false, false, false, false] rfl rfl (any_of HT_.out zb9) (fun _ _ _ h => h) (Or.inl ⟨by rfl, ?_⟩) ?_ ?_
           rotate_left
           ·intro w'
            go_simp
            first | with_reducible rfl | (rw [if_neg zb1])
           rotate_left
           ·simp only [Act.put, List.setIfInBounds_toArray, List.set_cons_zero, List.set_cons_succ, i64_w, i32_w]
            rfl
           refine pure_ (i := 1) (N := some 56) (v := ?_) (a' := ?_) #[true, true, false, false, false, false, false, false, false, false, false, false, false, false] rfl rfl (any_of HT_.out zb9) (fun _ _ _ h => h) (Or.inl ⟨by rfl, ?_⟩) ?_ ?_
           rotate_left
           ·intro w'
            go_simp
            first | with_reducible rfl | (rw [if_neg zb1])
           rotate_left
           ·simp only [Act.put, List.setIfInBounds_toArray, List.set_cons_zero, List.set_cons_succ, i64_w, i32_w]
            rfl
           refine pure_ (i := 2) (N := some 57) (v := ?_) (a' := ?_) #[true, true, true, false, false, false, false, false, false, false, false, false, false, false] rfl rfl (any_of HT_.out zb9) (fun _ _ _ h => h) (Or.inl ⟨by rfl, ?_⟩) ?_ ?_
           rotate_left
           ·intro w'
            go_simp
            first | with_reducible rfl | (rw [if_neg zb1])
           rotate_left
           ·simp only [Act.put, List.setIfInBounds_toArray, List.set_cons_zero, List.set_cons_succ, i64_w, i32_w]
            rfl
           refine pure_ (i := 3) (N := some 58) (v := ?_) (a' := ?_) #[true, true, true, true, false, false, false, false, false, false, false, false, false, false] rfl rfl (any_of HT_.out zb9) (fun _ _ _ h => h) (Or.inl ⟨by rfl, ?_⟩) ?_ ?_
           rotate_left
           ·intro w'
            go_simp
            first | with_reducible rfl | (rw [if_neg zb1])
           rotate_left
           ·simp only [Act.put, List.setIfInBounds_toArray, List.set_cons_zero, List.set_cons_succ, i64_w, i32_w]
            rfl
           refine pure_ (i := 5) (N := some 60) (v := ?_) (a' := ?_) #[true, true, true, true, false, true, false, false, false, false, false, false, false, false] rfl rfl (any_of HT_.out zb9) (fun _ _ _ h => h) (Or.inl ⟨by rfl, ?_⟩) ?_ ?_
           rotate_left
           ·intro w'
            go_simp
            first | with_reducible rfl | (rw [if_neg zb1])
           rotate_left
           ·simp only [Act.put, List.setIfInBounds_toArray, List.set_cons_zero, List.set_cons_succ, i64_w, i32_w]
            rfl
           refine pure_ (i := 7) (N := some 62) (v := ?_) (a' := ?_) #[true, true, true, true, false, true, false, true, false, false, false, false, false, false] rfl rfl (any_of HT_.out zb9) (fun _ _ _ h => h) (Or.inl ⟨by rfl, ?_⟩) ?_ ?_
           rotate_left
           ·intro w'
            go_simp
            first | with_reducible rfl | (rw [if_neg zb1])
           rotate_left
           ·simp only [Act.put, List.setIfInBounds_toArray, List.set_cons_zero, List.set_cons_succ, i64_w, i32_w]
            rfl
           refine take_ (i := 6) (N := some 61) (v := ?_) (a' := ?_) #[true, true, true, true, false, true, true, true, false, false, false, false, false, false] rfl rfl (take_ofW HT_.out HW_.out zb9) (fun _ _ _ h => h) (Or.inl ⟨by rfl, ?_⟩) hHeld ?_ ?_
           rotate_left
           ·rintro w' ⟨s0, s1, s2, s3, s4⟩
            go_simp
            first | with_reducible rfl | (rw [if_neg zb1])
           rotate_left
           ·simp only [Act.put, List.setIfInBounds_toArray, List.set_cons_zero, List.set_cons_succ, i64_w, i32_w]
            rfl
           refine pure_ (i := 8) (N := some 63) (v := ?_) (a' := ?_) #[true, true, true, true, false, true, true, true, true, false, false, false, false, false] rfl rfl (any_of HT_.out zb9) (fun _ _ _ h => h) (Or.inl ⟨by rfl, ?_⟩) ?_ ?_
           rotate_left
           ·intro w'
            go_simp
            first | with_reducible rfl | (rw [if_neg zb1])
           rotate_left
           ·simp only [Act.put, List.setIfInBounds_toArray, List.set_cons_zero, List.set_cons_succ, i64_w, i32_w]
            rfl
           refine pure_ (i := 9) (N := some 64) (v := ?_) (a' := ?_) #[true, true, true, true, false, true, true, true, true, true, false, false, false, false] rfl rfl (any_of HT_.out zb9) (fun _ _ _ h => h) (Or.inl ⟨by rfl, ?_⟩) ?_ ?_
           rotate_left
           ·intro w'
            go_simp
            first | with_reducible rfl | (rw [if_neg zb1])
           rotate_left
           ·simp only [Act.put, List.setIfInBounds_toArray, List.set_cons_zero, List.set_cons_succ, i64_w, i32_w]
            rfl
           refine take_ (i := 10) (N := some 65) (v := ?_) (a' := ?_) #[true, true, true, true, false, true, true, true, true, true, true, false, false, false] rfl rfl (take_ofW HT_.out HW_.out zb9) (fun _ _ _ h => h) (Or.inl ⟨by rfl, ?_⟩) hHeld ?_ ?_
           rotate_left
           ·rintro w' ⟨s0, s1, s2, s3, s4⟩
            go_simp
            first | with_reducible rfl | (rw [if_neg zb1])
           rotate_left
           ·simp only [Act.put, List.setIfInBounds_toArray, List.set_cons_zero, List.set_cons_succ, i64_w, i32_w]
            rfl
           refine one_ (i := 4) (N := some 59) #[true, true, true, true, true, true, true, true, true, true, true, false, false, false] rfl rfl (one_of HT_.out zb9) zb47 (fun K hK => ?_)
           refine goes_ Tryz.func57 zb9 rfl #[.string t250] (by rfl) rfl rfl zb2 ?_
           with_reducible refine (broadsheetref07_Lower.calls k2 t250 t252 _ A32.out).mono ?_
           rintro e w47 ⟨rfl, hb⟩
           refine ⟨_, rfl, ?_⟩
           have n0_ := Aside0.mk (blk_below (g := gb246) (o := .cells #[.string a0_0, .string a0_1, .slice (some ad248) l0_2.length c0_2] 40 (0, 0)) zb27 hb)
           have n1_ := Aside0.mk (blk_below (g := gb247) (o := .cells #[.string a1_0, .string a1_1, .slice A1_2 l1_2.length c1_2] 40 (0, 0)) zb36 hb)
           have n2_ := Aside0.mk (below_step zb15 hb)
           clear BK246
           clear BK247
           clear HB
           have BK246 := n0_
           have BK247 := n1_
           have HB := n2_
           clear n0_ n1_ n2_
           (try clear hb)
           (try clear hb2)
           (try clear hk)
           (try clear hi)
           refine hK.out _ _ ⟨(blk_cell BK246.out 0).trans rfl, (blk_cell BK246.out 1).trans rfl, (blk_cell BK246.out 2).trans rfl, ((HB.out.cell (World.block_lt_of_cell? w _ hw253_0)).trans hw253_0), ((HB.out.cell (World.block_lt_of_cell? w _ hw253_1)).trans hw253_1)⟩ (fun hHeld => ?_)
           clear hK K
           refine norm_ (a' := ?_) ?_ ?_
           rotate_left
           ·show Act.put _ (some 59) _ = _
            simp only [Act.put, List.setIfInBounds_toArray, List.set_cons_zero, List.set_cons_succ, i64_w, i32_w]
            rfl
           refine one_ (i := 11) (N := some 66) #[true, true, true, true, true, true, true, true, true, true, true, true, false, false] rfl rfl (one_of HT_.out zb9) zb47 (fun K hK => ?_)
           refine goes_ Tryz.func57 zb9 rfl #[.string ((rd_T50 l0_2 x5_2).f1)] (by rfl) rfl rfl zb2 ?_
           with_reducible refine (broadsheetref07_Lower.calls k2 ((rd_T50 l0_2 x5_2).f1) t254 _ A33.out).mono ?_
           rintro e w48 ⟨rfl, hb⟩
           refine ⟨_, rfl, ?_⟩
           have n0_ := Aside0.mk (blk_below (g := gb246) (o := .cells #[.string a0_0, .string a0_1, .slice (some ad248) l0_2.length c0_2] 40 (0, 0)) zb27 hb)
           have n1_ := Aside0.mk (blk_below (g := gb247) (o := .cells #[.string a1_0, .string a1_1, .slice A1_2 l1_2.length c1_2] 40 (0, 0)) zb36 hb)
           have n2_ := Aside0.mk (below_step zb15 hb)
           clear BK246
           clear BK247
           clear HB
           have BK246 := n0_
           have BK247 := n1_
           have HB := n2_
           clear n0_ n1_ n2_
           (try clear hb)
           (try clear hb2)
           (try clear hk)
           (try clear hi)
           refine hK.out _ _ ⟨(blk_cell BK246.out 0).trans rfl, (blk_cell BK246.out 1).trans rfl, (blk_cell BK246.out 2).trans rfl, ((HB.out.cell (World.block_lt_of_cell? w _ hw253_0)).trans hw253_0), ((HB.out.cell (World.block_lt_of_cell? w _ hw253_1)).trans hw253_1)⟩ (fun hHeld => ?_)
           clear hK K
           refine norm_ (a' := ?_) ?_ ?_
           rotate_left
           ·show Act.put _ (some 66) _ = _
            simp only [Act.put, List.setIfInBounds_toArray, List.set_cons_zero, List.set_cons_succ, i64_w, i32_w]
            rfl
           refine pure_ (i := 12) (N := some 67) (v := ?_) (a' := ?_) #[true, true, true, true, true, true, true, true, true, true, true, true, true, false] rfl rfl (any_of HT_.out zb9) (fun _ _ _ h => h) (Or.inl ⟨by rfl, ?_⟩) ?_ ?_
           rotate_left
           ·intro w'
            go_simp
            first | with_reducible rfl | (rw [if_neg zb1])
           rotate_left
           ·simp only [Act.put, List.setIfInBounds_toArray, List.set_cons_zero, List.set_cons_succ, i64_w, i32_w]
            rfl
           refine pure_ (i := 13) (N := some 68) (v := ?_) (a' := ?_) #[true, true, true, true, true, true, true, true, true, true, true, true, true, true] rfl rfl (any_of HT_.out zb9) (fun _ _ _ h => h) (Or.inl ⟨by rfl, ?_⟩) ?_ ?_
           rotate_left
           ·intro w'
            go_simp
            first | with_reducible rfl | (rw [if_neg zb1])
           rotate_left
           ·simp only [Act.put, List.setIfInBounds_toArray, List.set_cons_zero, List.set_cons_succ, i64_w, i32_w]
            rfl
           refine done_ (done_of HT_.out zb9) ?_
           try go_wp2
           go_ret
           exact ⟨zb6, zb15⟩
         ·replace c31 := Bool.eq_false_iff.mpr c31
          subst c31
          replace H : (some false) = some r := by rw [if_neg (show ¬ (false = true) by decide)] at H; exact H
          obtain rfl := Option.some.inj H
          have hnb49 := NB246_247.out
          have hnc49 := NB247_246.out
          have hcz50_0 : wr.cell? ⟨gb246, 0, none⟩ = some (.string a0_0) := (blk_cell BK246.out 0).trans rfl
          have hcz50_1 : wr.cell? ⟨gb246, 1, none⟩ = some (.string a0_1) := (blk_cell BK246.out 1).trans rfl
          have hcz50_2 : wr.cell? ⟨gb246, 2, none⟩ = some (.slice A0_2 l0_2.length c0_2) := (blk_cell BK246.out 2).trans rfl
          have hfz50_0 := blk_frozen BK246.out 0
          have hfz50_1 := blk_frozen BK246.out 1
          have hfz50_2 := blk_frozen BK246.out 2
          have p248 : 0 ≤ (x5_2 : Int) := of_decide_eq_true zb3
          have q248 : x5_2 < (l0_2.length : Int) := of_decide_eq_true zb3
          obtain ⟨ad248, e248, hx248_0, hx248_1⟩ := at_T50 HR0_2.out x5_2 p248 q248
          cases e248
          replace hx248_0 := (HB.out.cell (World.block_lt_of_cell? w _ hx248_0)).trans hx248_0
          replace hx248_1 := (HB.out.cell (World.block_lt_of_cell? w _ hx248_1)).trans hx248_1
          replace p248 := eq_true p248
          replace q248 := eq_true q248
          try go_wp2
          have n0_ := Aside0.mk (blk_drew BK246.out)
          have n1_ := Aside0.mk (blk_drew BK247.out)
          have n2_ := Aside0.mk (below_drew1 HB.out)
          clear BK246
          clear BK247
          clear HB
          have BK246 := n0_
          have BK247 := n1_
          have HB := n2_
          clear n0_ n1_ n2_
          have p249 : 0 ≤ (x5_2 : Int) := of_decide_eq_true zb3
          have q249 : x5_2 < (l0_2.length : Int) := of_decide_eq_true zb3
          obtain ⟨ad249, e249, hx249_0, hx249_1⟩ := at_T50 HR0_2.out x5_2 p249 q249
          have hw249_1 := hx249_1
          have hw249_0 := hx249_0
          obtain rfl : ad248 = ad249 := (by injection e249)
          replace hx249_0 := (HB.out.cell (World.block_lt_of_cell? w _ hx249_0)).trans hx249_0
          replace hx249_1 := (HB.out.cell (World.block_lt_of_cell? w _ hx249_1)).trans hx249_1
          replace p249 := eq_true p249
          replace q249 := eq_true q249
          refine start_ (n := 13) (S := fun w' => w'.cell? ⟨gb247, 0, none⟩ = some (.string a1_0) ∧ w'.cell? ⟨gb247, 1, none⟩ = some (.string a1_1) ∧ w'.cell? ⟨gb247, 2, none⟩ = some (.slice A1_2 l1_2.length c1_2) ∧ w'.cell? ⟨gb246, 0, none⟩ = some (.string a0_0) ∧ w'.cell? ⟨gb246, 1, none⟩ = some (.string a0_1) ∧ w'.cell? ⟨gb246, 2, none⟩ = some (.slice (some ad248) l0_2.length c0_2) ∧ w'.cell? (ad248.add ((x5_2).toNat * 2)) = some (.string ((rd_T50 l0_2 x5_2).f0)) ∧ w'.cell? ⟨(ad248.add ((x5_2).toNat * 2)).block, (ad248.add ((x5_2).toNat * 2)).off + 1, none⟩ = some (.string ((rd_T50 l0_2 x5_2).f1))) (ds := []) #[false, false, false, false, false, false, false, false, false, false, false, false, false] zb9 rfl rfl ⟨(blk_cell BK247.out 0).trans rfl, (blk_cell BK247.out 1).trans rfl, (blk_cell BK247.out 2).trans rfl, (blk_cell BK246.out 0).trans rfl, (blk_cell BK246.out 1).trans rfl, (blk_cell BK246.out 2).trans rfl, ((HB.out.cell (World.block_lt_of_cell? w _ hw249_0)).trans hw249_0), ((HB.out.cell (World.block_lt_of_cell? w _ hw249_1)).trans hw249_1)⟩ (fun hHeld => ?_); refine with_tabW broadsheetref13_Fits.tab7 broadsheetref13_Fits.bits7 (fun HT_ HW_ => ?_)
          generalize wr.drew = w51 at BK246 BK247 HB hx249_0 hx249_1 hHeld ⊢
          refine pure_ (i := 1) (N := some 46) (v := ?_) (a' := ?_) #[false, true, false, false, false, false, false, false, false, false, false, false, false] rfl rfl (any_of HT_.out zb9) (fun _ _ _ h => h) (Or.inl ⟨by rfl, ?_⟩) ?_ ?_
          rotate_left
          ·intro w'
           go_simp
           first | with_reducible rfl | (rw [if_neg zb1])
          rotate_left
          ·simp only [Act.put, List.setIfInBounds_toArray, List.set_cons_zero, List.set_cons_succ, i64_w, i32_w]
           rfl
          refine pure_ (i := 3) (N := some 48) (v := ?_) (a' := ?_) #[false, true, false, true, false, false, false, false, false, false, false, false, false] rfl rfl (any_of HT_.out zb9) (fun _ _ _ h => h) (Or.inl ⟨by rfl, ?_⟩) ?_ ?_
          rotate_left
          ·intro w'
           go_simp
           first | with_reducible rfl | (rw [if_neg zb1])
          rotate_left
          ·simp only [Act.put, List.setIfInBounds_toArray, List.set_cons_zero, List.set_cons_succ, i64_w, i32_w]
           rfl
          refine take_ (i := 0) (N := some 45) (v := ?_) (a' := ?_) #[true, true, false, true, false, false, false, false, false, false, false, false, false] rfl rfl (take_ofW HT_.out HW_.out zb9) (fun _ _ _ h => h) (Or.inl ⟨by rfl, ?_⟩) hHeld ?_ ?_
          rotate_left
          ·rintro w' ⟨s0, s1, s2, s3, s4, s5, s6, s7⟩
           go_simp
           first | with_reducible rfl | (rw [if_neg zb1])
          rotate_left
          ·simp only [Act.put, List.setIfInBounds_toArray, List.set_cons_zero, List.set_cons_succ, i64_w, i32_w]
           rfl
          refine take_ (i := 2) (N := some 47) (v := ?_) (a' := ?_) #[true, true, true, true, false, false, false, false, false, false, false, false, false] rfl rfl (take_ofW HT_.out HW_.out zb9) (fun _ _ _ h => h) (Or.inl ⟨by rfl, ?_⟩) hHeld ?_ ?_
          rotate_left
          ·rintro w' ⟨s0, s1, s2, s3, s4, s5, s6, s7⟩
           go_simp
           first | with_reducible rfl | (rw [if_neg zb1])
          rotate_left
          ·simp only [Act.put, List.setIfInBounds_toArray, List.set_cons_zero, List.set_cons_succ, i64_w, i32_w]
           rfl
          refine pure_ (i := 4) (N := some 49) (v := ?_) (a' := ?_) #[true, true, true, true, true, false, false, false, false, false, false, false, false] rfl rfl (any_of HT_.out zb9) (fun _ _ _ h => h) (Or.inl ⟨by rfl, ?_⟩) ?_ ?_
          rotate_left
          ·intro w'
           go_simp
           first | with_reducible rfl | (rw [if_neg zb1])
          rotate_left
          ·simp only [Act.put, List.setIfInBounds_toArray, List.set_cons_zero, List.set_cons_succ, i64_w, i32_w]
           rfl
          refine pure_ (i := 5) (N := some 50) (v := ?_) (a' := ?_) #[true, true, true, true, true, true, false, false, false, false, false, false, false] rfl rfl (any_of HT_.out zb9) (fun _ _ _ h => h) (Or.inl ⟨by rfl, ?_⟩) ?_ ?_
          rotate_left
          ·intro w'
           go_simp
           first | with_reducible rfl | (rw [if_neg zb1])
          rotate_left
          ·simp only [Act.put, List.setIfInBounds_toArray, List.set_cons_zero, List.set_cons_succ, i64_w, i32_w]
           rfl
          refine take_ (i := 6) (N := some 51) (v := ?_) (a' := ?_) #[true, true, true, true, true, true, true, false, false, false, false, false, false] rfl rfl (take_ofW HT_.out HW_.out zb9) (fun _ _ _ h => h) (Or.inl ⟨by rfl, ?_⟩) hHeld ?_ ?_
          rotate_left
          ·rintro w' ⟨s0, s1, s2, s3, s4, s5, s6, s7⟩
           go_simp
           first | with_reducible rfl | (rw [if_neg zb1])
          rotate_left
          ·simp only [Act.put, List.setIfInBounds_toArray, List.set_cons_zero, List.set_cons_succ, i64_w, i32_w]
           rfl
          refine one_ (i := 7) (N := some 52) #[true, true, true, true, true, true, true, true, false, false, false, false, false] rfl rfl (one_of HT_.out zb9) zb47 (fun K hK => ?_)
          refine goes_ Tryz.func34 zb9 rfl #[.agg #[.string a1_0, .string a1_1, .slice A1_2 l1_2.length c1_2], .string ((rd_T50 l0_2 x5_2).f0)] (by rfl) rfl rfl zb2 ?_
          with_reducible refine (broadsheetref13_Param.calls k2 a1_0 a1_1 _ _ l1_2 ((rd_T50 l0_2 x5_2).f0) t250 false _ ?side1 ?side2 A30.out).mono ?_
          (case side1 => repeat (first | exact (Kd.C_below HR1_2.out HB.out) | (with_reducible refine Kd.C_alloc ?_ _) | (with_reducible refine Kd.C_drewN ?_ _) | (with_reducible refine Kd.C_drew ?_)))
          (case side2 => exact HC1_2.out)
          rintro e w52 ⟨rfl, hb⟩
          refine ⟨_, rfl, ?_⟩
          have n0_ := Aside0.mk (blk_below (g := gb246) (o := .cells #[.string a0_0, .string a0_1, .slice (some ad248) l0_2.length c0_2] 40 (0, 0)) zb27 hb)
          have n1_ := Aside0.mk (blk_below (g := gb247) (o := .cells #[.string a1_0, .string a1_1, .slice A1_2 l1_2.length c1_2] 40 (0, 0)) zb36 hb)
          have n2_ := Aside0.mk (below_step zb15 hb)
          clear BK246
          clear BK247
          clear HB
          have BK246 := n0_
          have BK247 := n1_
          have HB := n2_
          clear n0_ n1_ n2_
          (try clear hb)
          (try clear hb2)
          (try clear hk)
          (try clear hi)
          refine hK.out _ _ ⟨(blk_cell BK247.out 0).trans rfl, (blk_cell BK247.out 1).trans rfl, (blk_cell BK247.out 2).trans rfl, (blk_cell BK246.out 0).trans rfl, (blk_cell BK246.out 1).trans rfl, (blk_cell BK246.out 2).trans rfl, ((HB.out.cell (World.block_lt_of_cell? w _ hw249_0)).trans hw249_0), ((HB.out.cell (World.block_lt_of_cell? w _ hw249_1)).trans hw249_1)⟩ (fun hHeld => ?_)
          clear hK K
          refine norm_ (a' := ?_) ?_ ?_
          rotate_left
          ·show Act.put _ (some 52) _ = _
           simp only [Act.put, List.setIfInBounds_toArray, List.set_cons_zero, List.set_cons_succ, i64_w, i32_w]
           rfl
          refine pure_ (i := 8) (N := some 44) (v := ?_) (a' := ?_) #[true, true, true, true, true, true, true, true, true, false, false, false, false] rfl rfl (any_of HT_.out zb9) (fun _ _ _ h => h) (Or.inl ⟨by rfl, ?_⟩) ?_ ?_
          rotate_left
          ·intro w'
           go_simp
           first | with_reducible rfl | (rw [if_neg zb1])
          rotate_left
          ·simp only [Act.put, List.setIfInBounds_toArray, List.set_cons_zero, List.set_cons_succ, i64_w, i32_w]
           rfl
          refine pure_ (i := 9) (N := some 53) (v := ?_) (a' := ?_) #[true, true, true, true, true, true, true, true, true, true, false, false, false] rfl rfl (any_of HT_.out zb9) (fun _ _ _ h => h) (Or.inl ⟨by rfl, ?_⟩) ?_ ?_
          rotate_left
          ·intro w'
           go_simp
           first | with_reducible rfl | (rw [if_neg zb1])
          rotate_left
          ·simp only [Act.put, List.setIfInBounds_toArray, List.set_cons_zero, List.set_cons_succ, i64_w, i32_w]
           rfl
          refine pure_ (i := 10) (N := some 54) (v := ?_) (a' := ?_) #[true, true, true, true, true, true, true, true, true, true, true, false, false] rfl rfl (any_of HT_.out zb9) (fun _ _ _ h => h) (Or.inl ⟨by rfl, ?_⟩) ?_ ?_
          rotate_left
          ·intro w'
           go_simp
           first | with_reducible rfl | (rw [if_neg zb1])
          rotate_left
          ·simp only [Act.put, List.setIfInBounds_toArray, List.set_cons_zero, List.set_cons_succ, i64_w, i32_w]
           rfl
          refine pure_ (i := 11) (N := some 6) (v := ?_) (a' := ?_) #[true, true, true, true, true, true, true, true, true, true, true, true, false] rfl rfl (any_of HT_.out zb9) (fun _ _ _ h => h) (Or.inl ⟨by rfl, ?_⟩) ?_ ?_
          rotate_left
          ·intro w'
           go_simp
           first | with_reducible rfl | (rw [if_neg zb1])
          rotate_left
          ·simp only [Act.put, List.setIfInBounds_toArray, List.set_cons_zero, List.set_cons_succ, i64_w, i32_w]
           rfl
          refine pure_ (i := 12) (N := some 7) (v := ?_) (a' := ?_) #[true, true, true, true, true, true, true, true, true, true, true, true, true] rfl rfl (any_of HT_.out zb9) (fun _ _ _ h => h) (Or.inl ⟨by rfl, ?_⟩) ?_ ?_
          rotate_left
          ·intro w'
           go_simp
           first | with_reducible rfl | (rw [if_neg zb1])
          rotate_left
          ·simp only [Act.put, List.setIfInBounds_toArray, List.set_cons_zero, List.set_cons_succ, i64_w, i32_w]
           rfl
          refine done_ (done_of HT_.out zb9) ?_
          try go_wp2
          have n0_ := Aside0.mk (blk_drew BK246.out)
          have n1_ := Aside0.mk (blk_drew BK247.out)
          have n2_ := Aside0.mk (below_drew1 HB.out)
          clear BK246
          clear BK247
          clear HB
          have BK246 := n0_
          have BK247 := n1_
          have HB := n2_
          clear n0_ n1_ n2_
          refine start_ (n := 14) (S := fun w' => True) (ds := []) #[false, false, false, false, false, false, false, false, false, false, false, false, false, false] zb9 rfl rfl trivial (fun hHeld => ?_); refine with_tabW broadsheetref13_Fits.tab8 broadsheetref13_Fits.bits8 (fun HT_ HW_ => ?_)
          generalize w52.drew = w53 at BK246 BK247 HB hHeld ⊢
          refine pure_ (i := 0) (N := some 55) (v := ?_) (a' := ?_) #[true, false, false, false, false, false, false, false, false, false, false, false, false, false] rfl rfl (any_of HT_.out zb9) (fun _ _ _ h => h) (Or.inl ⟨by rfl, ?_⟩) ?_ ?_
          rotate_left
          ·intro w'
           go_simp
           first | with_reducible rfl | (rw [if_neg zb1])
          rotate_left
          ·simp only [Act.put, List.setIfInBounds_toArray, List.set_cons_zero, List.set_cons_succ, i64_w, i32_w]
           rfl
          refine pure_ (i := 1) (N := some 56) (v := ?_) (a' := ?_) #[true, true, false, false, false, false, false, false, false, false, false, false, false, false] rfl rfl (any_of HT_.out zb9) (fun _ _ _ h => h) (Or.inl ⟨by rfl, ?_⟩) ?_ ?_
          rotate_left
          ·intro w'
           go_simp
           first | with_reducible rfl | (rw [if_neg zb1])
          rotate_left
          ·simp only [Act.put, List.setIfInBounds_toArray, List.set_cons_zero, List.set_cons_succ, i64_w, i32_w]
           rfl
          refine pure_ (i := 2) (N := some 57) (v := ?_) (a' := ?_) #[true, true, true, false, false, false, false, false, false, false, false, false, false, false] rfl rfl (any_of HT_.out zb9) (fun _ _ _ h => h) (Or.inl ⟨by rfl, ?_⟩) ?_ ?_
          rotate_left
          ·intro w'
           go_simp
           first | with_reducible rfl | (rw [if_neg zb1])
          rotate_left
          ·simp only [Act.put, List.setIfInBounds_toArray, List.set_cons_zero, List.set_cons_succ, i64_w, i32_w]
           rfl
          refine pure_ (i := 3) (N := some 58) (v := undef) (a' := ?_) #[true, true, true, true, false, false, false, false, false, false, false, false, false, false] rfl rfl (any_of HT_.out zb9) (fun _ _ _ h => h) (Or.inr ⟨by rfl, rfl⟩) ?_ ?_
          rotate_left
          ·simp only [Act.put, List.setIfInBounds_toArray, List.set_cons_zero, List.set_cons_succ, i64_w, i32_w]
           rfl
          refine pure_ (i := 4) (N := some 59) (v := undef) (a' := ?_) #[true, true, true, true, true, false, false, false, false, false, false, false, false, false] rfl rfl (any_of HT_.out zb9) (fun _ _ _ h => h) (Or.inr ⟨by rfl, rfl⟩) ?_ ?_
          rotate_left
          ·simp only [Act.put, List.setIfInBounds_toArray, List.set_cons_zero, List.set_cons_succ, i64_w, i32_w]
           rfl
          refine pure_ (i := 5) (N := some 60) (v := undef) (a' := ?_) #[true, true, true, true, true, true, false, false, false, false, false, false, false, false] rfl rfl (any_of HT_.out zb9) (fun _ _ _ h => h) (Or.inr ⟨by rfl, rfl⟩) ?_ ?_
          rotate_left
          ·simp only [Act.put, List.setIfInBounds_toArray, List.set_cons_zero, List.set_cons_succ, i64_w, i32_w]
           rfl
          refine pure_ (i := 6) (N := some 61) (v := undef) (a' := ?_) #[true, true, true, true, true, true, true, false, false, false, false, false, false, false] rfl rfl (any_of HT_.out zb9) (fun _ _ _ h => h) (Or.inr ⟨by rfl, rfl⟩) ?_ ?_
          rotate_left
          ·simp only [Act.put, List.setIfInBounds_toArray, List.set_cons_zero, List.set_cons_succ, i64_w, i32_w]
           rfl
          refine pure_ (i := 7) (N := some 62) (v := undef) (a' := ?_) #[true, true, true, true, true, true, true, true, false, false, false, false, false, false] rfl rfl (any_of HT_.out zb9) (fun _ _ _ h => h) (Or.inr ⟨by rfl, rfl⟩) ?_ ?_
          rotate_left
          ·simp only [Act.put, List.setIfInBounds_toArray, List.set_cons_zero, List.set_cons_succ, i64_w, i32_w]
           rfl
          refine pure_ (i := 8) (N := some 63) (v := undef) (a' := ?_) #[true, true, true, true, true, true, true, true, true, false, false, false, false, false] rfl rfl (any_of HT_.out zb9) (fun _ _ _ h => h) (Or.inr ⟨by rfl, rfl⟩) ?_ ?_
          rotate_left
          ·simp only [Act.put, List.setIfInBounds_toArray, List.set_cons_zero, List.set_cons_succ, i64_w, i32_w]
           rfl
          refine pure_ (i := 9) (N := some 64) (v := undef) (a' := ?_) #[true, true, true, true, true, true, true, true, true, true, false, false, false, false] rfl rfl (any_of HT_.out zb9) (fun _ _ _ h => h) (Or.inr ⟨by rfl, rfl⟩) ?_ ?_
          rotate_left
          ·simp only [Act.put, List.setIfInBounds_toArray, List.set_cons_zero, List.set_cons_succ, i64_w, i32_w]
           rfl
          refine pure_ (i := 10) (N := some 65) (v := undef) (a' := ?_) #[true, true, true, true, true, true, true, true, true, true, true, false, false, false] rfl rfl (any_of HT_.out zb9) (fun _ _ _ h => h) (Or.inr ⟨by rfl, rfl⟩) ?_ ?_
          rotate_left
          ·simp only [Act.put, List.setIfInBounds_toArray, List.set_cons_zero, List.set_cons_succ, i64_w, i32_w]
           rfl
          refine pure_ (i := 11) (N := some 66) (v := undef) (a' := ?_) #[true, true, true, true, true, true, true, true, true, true, true, true, false, false] rfl rfl (any_of HT_.out zb9) (fun _ _ _ h => h) (Or.inr ⟨by rfl, rfl⟩) ?_ ?_
          rotate_left
          ·simp only [Act.put, List.setIfInBounds_toArray, List.set_cons_zero, List.set_cons_succ, i64_w, i32_w]
           rfl
          refine pure_ (i := 12) (N := some 67) (v := undef) (a' := ?_) #[true, true, true, true, true, true, true, true, true, true, true, true, true, false] rfl rfl (any_of HT_.out zb9) (fun _ _ _ h => h) (Or.inr ⟨by rfl, rfl⟩) ?_ ?_
          rotate_left
          ·simp only [Act.put, List.setIfInBounds_toArray, List.set_cons_zero, List.set_cons_succ, i64_w, i32_w]
           rfl
          refine pure_ (i := 13) (N := some 68) (v := ?_) (a' := ?_) #[true, true, true, true, true, true, true, true, true, true, true, true, true, true] rfl rfl (any_of HT_.out zb9) (fun _ _ _ h => h) (Or.inl ⟨by rfl, ?_⟩) ?_ ?_
          rotate_left
          ·intro w'
           go_simp
           first | with_reducible rfl | (rw [if_neg zb1])
          rotate_left
          ·simp only [Act.put, List.setIfInBounds_toArray, List.set_cons_zero, List.set_cons_succ, i64_w, i32_w]
           rfl
          refine done_ (done_of HT_.out zb9) ?_
          try go_wp2
          go_ret
          exact ⟨zb6, zb15⟩
       ·rw [if_neg c26] at H
        exact absurd H zb45
      ·rw [if_neg c25] at H
       have c25b0 : decide (x5_2 < (l0_2.length : Int)) = false := decide_eq_false c25
       clear c25
       obtain rfl := Option.some.inj H
       have hnb54 := NB246_247.out
       have hnc54 := NB247_246.out
       have hcz55_0 : wr.cell? ⟨gb246, 0, none⟩ = some (.string a0_0) := (blk_cell BK246.out 0).trans rfl
       have hcz55_1 : wr.cell? ⟨gb246, 1, none⟩ = some (.string a0_1) := (blk_cell BK246.out 1).trans rfl
       have hcz55_2 : wr.cell? ⟨gb246, 2, none⟩ = some (.slice A0_2 l0_2.length c0_2) := (blk_cell BK246.out 2).trans rfl
       have hfz55_0 := blk_frozen BK246.out 0
       have hfz55_1 := blk_frozen BK246.out 1
       have hfz55_2 := blk_frozen BK246.out 2
       go_wp2
       go_ret
       exact ⟨zb6, zb15⟩
end Go.Proofs.YtghfbhobpodoeaaGreatDoor.P
/- SpQg -/
namespace Go.Proofs.YtghfbhobpodoeaaGreatDoor.Sp
open Go Go.RowKit Go.Proofs.YtghfbhobpodoeaaGreatDoorW.PrintWords Go.Proofs.YtghfbhobpodoeaaGreatDoorW.PrintLast Go.Proofs.YtghfbhobpodoeaaGreatDoor.O Go.Proofs.YtghfbhobpodoeaaGreatDoor.P
set_option linter.unusedVariables false
set_option linter.unusedSimpArgs false
theorem rparam_l0 (a b : ByteArray) (ps : List (L × L)) (n : L) (hl : ps.length ≤ 100000000000) : ∀ (d k i : Nat), i + d = ps.length → d < k →
    broadsheetref13_Param.l0 k (mk n) (i : Int) a b (pairsB ps) = some (match param (ps.drop i) n with
      | some v => (mk v, true)
      | none => ((⟨#[]⟩ : ByteArray), false)) := by
  intro d
  induction d with
  | zero =>
    intro k i hi hk
    obtain ⟨k, rfl⟩ : ∃ m, k = m + 1 := ⟨k - 1, by omega⟩
    rw [broadsheetref13_Param.l0, if_neg (by rw [pairsB_len]; omega), List.drop_eq_nil_of_le (by omega)]
    rfl
  | succ d ih =>
    intro k i hi hk
    obtain ⟨k, rfl⟩ : ∃ m, k = m + 1 := ⟨k - 1, by omega⟩
    have hlt : i < ps.length := by omega
    rw [broadsheetref13_Param.l0, if_pos (by rw [pairsB_len]; omega), if_pos (by omega), rdp ps i ps[i] (List.getElem?_eq_getElem hlt), tl_mk, tl_mk, List.drop_eq_getElem_cons hlt]
    unfold param
    by_cases h : ps[i].1 = n
    · rw [if_pos h, List.find?_cons_of_pos (by simpa using h)]
      rfl
    · rw [if_neg h, List.find?_cons_of_neg (by simpa using h), w1_ i (by omega), ih k (i + 1) (by omega) (by omega)]
      rfl
theorem rparamF (a b : ByteArray) (ps : List (L × L)) (n : L) (k : Nat) (hl : ps.length ≤ 100000000000) (hk : ps.length < k) :
    broadsheetref13_Param.f k a b (pairsB ps) (mk n) = some (match param ps n with
      | some v => (mk v, true)
      | none => ((⟨#[]⟩ : ByteArray), false)) := by
  unfold broadsheetref13_Param.f
  have := rparam_l0 a b ps n hl ps.length k 0 (by omega) hk
  simpa using this
theorem rfits_l0 (r m : Med) (hr : MSm 1000000 r) (hm : MSm 1000000 m) (a b c e : ByteArray) : ∀ (d k i : Nat), i + d = r.ps.length → d + 2000000 ≤ k →
    broadsheetref13_Fits.l0 k (i : Int) a b (pairsB r.ps) c e (pairsB m.ps) = some ((r.ps.drop i).all (fitP m)) := by
  have hn := hr.n
  have hmn := hm.n
  intro d
  induction d with
  | zero =>
    intro k i hi hk
    obtain ⟨k, rfl⟩ : ∃ m, k = m + 1 := ⟨k - 1, by omega⟩
    rw [broadsheetref13_Fits.l0, if_neg (by rw [pairsB_len]; omega), List.drop_eq_nil_of_le (by omega)]
    rfl
  | succ d ih =>
    intro k i hi hk
    obtain ⟨k, rfl⟩ : ∃ m, k = m + 1 := ⟨k - 1, by omega⟩
    have hlt : i < r.ps.length := by omega
    have hp := hr.p r.ps[i] (List.getElem_mem hlt)
    rw [broadsheetref13_Fits.l0, if_pos (by rw [pairsB_len]; omega), if_pos (by omega), rdp r.ps i r.ps[i] (List.getElem?_eq_getElem hlt), List.drop_eq_getElem_cons hlt]
    generalize r.ps[i] = p at *
    simp only
    rw [tl_mk, w1_ i (by omega), List.all_cons]
    by_cases h : p.1 = [113]
    · rw [if_pos h, ih k (i + 1) (by omega) (by omega)]
      have : fitP m p = true := by unfold fitP; rw [h]; rfl
      rw [this, Bool.true_and]
    · rw [if_neg h, rparamF c e m.ps p.1 k (by omega) (by omega), Option.bind_some]
      have hb : (p.1 == [113]) = false := by simpa using h
      cases hv : param m.ps p.1 with
      | none =>
        simp only [Bool.false_eq_true, if_false]
        have : fitP m p = false := by unfold fitP; rw [hb, hv]; rfl
        rw [this, Bool.false_and]
      | some v =>
        have hvl : v.length ≤ 1000000 := by
          unfold param at hv
          obtain ⟨q, hq, rfl⟩ := Option.map_eq_some_iff.1 hv
          exact (hm.p q (List.mem_of_find?_eq_some hq)).2
        simp only [if_true]
        rw [rlowF v k (by omega) (by omega), Option.bind_some, rlowF p.2 k (by omega) (by omega), Option.bind_some, tl_mk, tl_mk]
        have hf : fitP m p = (low v == low p.2) := by unfold fitP; rw [hb, hv]; rfl
        by_cases he : low v = low p.2
        · rw [if_pos he, ih k (i + 1) (by omega) (by omega), hf, he]
          simp
        · rw [if_neg he, hf]
          have : (low v == low p.2) = false := by simpa using he
          rw [this]
          rfl
theorem rfits_j0 (r m : Med) (k : Nat) (hr : MSm 1000000 r) (hm : MSm 1000000 m) (hk : 3000001 ≤ k) (x : Bool) : broadsheetref13_Fits.j0 k x (mk r.t) (mk r.s) (pairsB r.ps) (mk m.t) (mk m.s) (pairsB m.ps) = some (!x && r.ps.all (fitP m)) := by
  obtain ⟨k, rfl⟩ : ∃ j, k = j + 1 := ⟨k - 1, by omega⟩
  rw [broadsheetref13_Fits.j0]
  cases x with
  | true => rfl
  | false =>
    rw [if_neg Bool.false_ne_true]
    have h0 := rfits_l0 r m hr hm (mk r.t) (mk r.s) (mk m.t) (mk m.s) r.ps.length k 0 (by omega) (by have := hr.n; omega)
    rw [List.drop_zero] at h0
    exact h0
theorem rfitsF (r m : Med) (k : Nat) (hr : MSm 1000000 r) (hm : MSm 1000000 m) (hk : 3000001 ≤ k) : broadsheetref13_Fits.f k (mk r.t) (mk r.s) (pairsB r.ps) (mk m.t) (mk m.s) (pairsB m.ps) = some (fitsL r m) := by
  unfold broadsheetref13_Fits.f
  simp only [rfits_j0 r m k hr hm hk, tl_mk]
  unfold fitsL fitQ
  by_cases h1 : r.t = [42]
  · rw [if_pos h1]
    have e1 : (r.t == [42]) = true := by simpa using h1
    by_cases h2 : r.s = [42]
    · have e2 : (r.s == [42]) = true := by simpa using h2
      rw [if_pos h2, e1, e2]; rfl
    · have e2 : (r.s == [42]) = false := by simpa using h2
      rw [if_neg h2, e1, e2]
      simp [bne]
  · have e1 : (r.t == [42]) = false := by simpa using h1
    rw [if_neg h1, e1]
    by_cases h3 : r.t = m.t
    · have e3 : (r.t == m.t) = true := by simpa using h3
      rw [if_pos h3, e3]
      by_cases h2 : r.s = [42]
      · have e2 : (r.s == [42]) = true := by simpa using h2
        rw [if_pos h2, e2]; rfl
      · have e2 : (r.s == [42]) = false := by simpa using h2
        rw [if_neg h2, e2]
        simp [bne]
    · have e3 : (r.t == m.t) = false := by simpa using h3
      rw [if_neg h3, e3]
      rfl
end Go.Proofs.YtghfbhobpodoeaaGreatDoor.Sp
/- Px21 -/
namespace Go.Proofs.YtghfbhobpodoeaaGreatDoor.P
open Go.Proofs.YtghfbhobpodoeaaGreatDoor.B
open Go.RowKit Go.Proofs.YtghfbhobpodoeaaGreatDoorW.PrintWords Go.Proofs.YtghfbhobpodoeaaGreatDoorW.PrintLast Go.Proofs.YtghfbhobpodoeaaGreatDoorW.PrintMore
attribute [local go_sem] run_store_float str_leq str_gtr str_geq max2_int min2_int max_two min_two max_three min_three max_four min_four
set_option linter.unusedVariables false
set_option linter.unusedSimpArgs false
mutual
def broadsheetref14_Split.l0 : Nat → ByteArray → List ByteArray → Int → Bool → Int → Option (List ByteArray)
  | 0, _, _, _, _, _ => none
  | k + 1, x0, x3, x4, x5, x6 => if x6 ≤ (x0.size : Int) then (if x6 = (x0.size : Int) then (broadsheetref14_Split.j1 k x0 x3 x4 x5 x6 true) else (if 0 ≤ x6 then (if x6 < (x0.size : Int) then (if (bt x0 x6) = 44 then (broadsheetref14_Split.j1 k x0 x3 x4 x5 x6 (!x5)) else (broadsheetref14_Split.j1 k x0 x3 x4 x5 x6 false)) else (none)) else (none))) else (some x3)
def broadsheetref14_Split.j1 : Nat → ByteArray → List ByteArray → Int → Bool → Int → Bool → Option (List ByteArray)
  | 0, _, _, _, _, _, _ => none
  | k + 1, x0, x3, x4, x5, x6, x13 => if x13 = true then (if 0 ≤ x4 then (if x4 ≤ x6 then (if x6 ≤ (x0.size : Int) then ((broadsheetref13_Skip.f k (x0.extract (x4 : Int).toNat (x6 : Int).toNat)).bind fun t190 => (if t190.toList = ([] : List UInt8) then (broadsheetref14_Split.l0 k x0 x3 (wrap64 (x6 + 1)) x5 (wrap64 (x6 + 1))) else (if x3.length < 8796093022208 then (broadsheetref14_Split.l0 k x0 (x3 ++ [x0.extract (x4 : Int).toNat (x6 : Int).toNat]) (wrap64 (x6 + 1)) x5 (wrap64 (x6 + 1))) else (none)))) else (none)) else (none)) else (none)) else (if 0 ≤ x6 then (if x6 < (x0.size : Int) then (if (bt x0 x6) = 34 then (broadsheetref14_Split.l0 k x0 x3 x4 (!x5) (wrap64 (x6 + 1))) else (if (bt x0 x6) = 92 then (if x5 = true then (if (wrap64 (x6 + 1)) < (x0.size : Int) then (broadsheetref14_Split.l0 k x0 x3 x4 x5 (wrap64 ((wrap64 (x6 + 1)) + 1))) else (broadsheetref14_Split.l0 k x0 x3 x4 x5 (wrap64 (x6 + 1)))) else (broadsheetref14_Split.l0 k x0 x3 x4 x5 (wrap64 (x6 + 1)))) else (broadsheetref14_Split.l0 k x0 x3 x4 x5 (wrap64 (x6 + 1))))) else (none)) else (none))
end
def broadsheetref14_Split.f (k : Nat) (a0 : ByteArray) : Option (List ByteArray) := broadsheetref14_Split.l0 k a0 ([] : List ByteArray) 0 false 0
set_option maxHeartbeats 8000000 in
set_option maxRecDepth 100000 in
theorem broadsheetref14_Split.calls (k : Nat) (a0 : ByteArray) (r : List ByteArray) (w : World) (h : broadsheetref14_Split.f k a0 = some r) :
  Calls Tryz.prog 14 #[.string a0] w fun e w' => ∃ v0_ : Value, e = .returned (v0_) ∧ Kd.R Kd.string 9 w' w.heap.size (fun _ => True) v0_ r ∧ Below w.heap.size w w' := by
 have HB := Aside0.mk (Below.refl w.heap.size w)
 have H : (broadsheetref14_Split.l0 k a0 ([] : List ByteArray) 0 false 0) = some r := h
 clear h
 have H' := Aside0.mk H
 clear H
 go_enter Tryz.func14, Tryz.ntmps14
 go_wp2
 first | go_loopg [3, 4, 5, 6] k (fun kq v3 v4 v5 v6 w' => ∃ (x3_1 : List ByteArray) (x4_1 : Int) (x5_1 : Bool) (x6_1 : Int), v4 = .int .i64 x4_1 ∧ v5 = .bool x5_1 ∧ v6 = .int .i64 x6_1 ∧ Aside0 (broadsheetref14_Split.l0 kq a0 x3_1 x4_1 x5_1 x6_1 = some r) ∧ Aside0 (kq ≤ k) ∧ Aside0 (Kd.R Kd.string 9 w' w.heap.size (fun _ => True) v3 x3_1) ∧ Aside0 (Below w.heap.size w w')) | (go_simp; go_loopg [3, 4, 5, 6] k (fun kq v3 v4 v5 v6 w' => ∃ (x3_1 : List ByteArray) (x4_1 : Int) (x5_1 : Bool) (x6_1 : Int), v4 = .int .i64 x4_1 ∧ v5 = .bool x5_1 ∧ v6 = .int .i64 x6_1 ∧ Aside0 (broadsheetref14_Split.l0 kq a0 x3_1 x4_1 x5_1 x6_1 = some r) ∧ Aside0 (kq ≤ k) ∧ Aside0 (Kd.R Kd.string 9 w' w.heap.size (fun _ => True) v3 x3_1) ∧ Aside0 (Below w.heap.size w w')))
 case atStart => exact ⟨(([] : List ByteArray)), (0), (false), (0), zb4, zb4, zb4, H', ⟨Nat.le_refl _⟩, ⟨by first | exact Kd.R_nil _ _ _ _ _ | exact Kd.N_nil _ _ _ _ _ | exact Kd.V_nil _ _ _ _ _ | exact Kd.Q_nil _ _ _ _ _ | exact Kd.S_nil _ _ _ _ _⟩, ⟨by repeat (first | (with_reducible first | exact HB.out | apply below_alloc | apply pw_below_drewN | apply below_drew1) | exact HB.out)⟩⟩
 case round =>
  clear H'
  try clear c1
  obtain ⟨x3_1, x4_1, x5_1, x6_1, rfl, rfl, rfl, HA, HK1, HO_3, HB⟩ := hrel
  cases gk with
  | zero => exact absurd HA.out (by simp [broadsheetref14_Split.l0])
  | succ k1 =>
   have H := HA.out
   clear HA
   simp only [broadsheetref14_Split.l0] at H
   by_cases c2 : x6_1 ≤ (a0.size : Int)
   ·rw [if_pos c2] at H
    have c2b0 : decide (x6_1 ≤ (a0.size : Int)) = true := decide_eq_true c2
    clear c2
    have HC3 := Aside0.mk H
    clear H
    go_upto_region 7 with (fail)
    go_cut [13] (fun v13 wc => ∃ (kq : Nat) (x13_2 : Bool), v13 = .bool x13_2 ∧ Aside0 (broadsheetref14_Split.j1 kq a0 x3_1 x4_1 x5_1 x6_1 x13_2 = some r) ∧ Aside0 (kq ≤ k1) ∧ Aside0 (Kd.R Kd.string 9 wc w.heap.size (fun _ => True) u3 x3_1) ∧ Aside0 (Below w.heap.size w wc))
    case first =>
     have H := HC3.out
     clear HC3
     by_cases c4 : x6_1 = (a0.size : Int)
     ·rw [if_pos c4] at H
      have c4b0 : (x6_1 == (a0.size : Int)) = true := beq_iff_eq.mpr c4
      have c4b1 : (x6_1 != (a0.size : Int)) = false := bne_eq_false_iff_eq.mpr c4
      clear c4
      (first | rw [c4b0] | (simp only [i64_w, i32_w]; rw [c4b0]) | skip)
      have H' := Aside0.mk H
      clear H
      go_wp2
      go_meet
      case rel => exact ⟨_, (true), zb4, H', ⟨by have := HK1.out; first | omega | exact Nat.le_refl _⟩, ⟨by (with_reducible repeat (first | apply Kd.R_alloc | apply Kd.R_drewN | apply Kd.R_drew)); exact HO_3.out⟩, ⟨by repeat (first | (with_reducible first | exact HB.out | apply below_alloc | apply pw_below_drewN | apply below_drew1) | exact HB.out)⟩⟩
     ·rw [if_neg c4] at H
      have c4b0 : (x6_1 == (a0.size : Int)) = false := beq_eq_false_iff_ne.mpr c4
      have c4b1 : (x6_1 != (a0.size : Int)) = true := bne_iff_ne.mpr c4
      (first | rw [c4b0] | (simp only [i64_w, i32_w]; rw [c4b0]) | skip)
      by_cases c5 : 0 ≤ x6_1
      ·rw [if_pos c5] at H
       have c5b0 : decide (0 ≤ x6_1) = true := decide_eq_true c5
       clear c5
       by_cases c6 : x6_1 < (a0.size : Int)
       ·rw [if_pos c6] at H
        have c6b0 : decide (x6_1 < (a0.size : Int)) = true := decide_eq_true c6
        clear c6
        by_cases c8 : (bt a0 x6_1) = 44
        ·rw [if_pos c8] at H
         have c8b0 : ((bt a0 x6_1) == 44) = true := beq_iff_eq.mpr c8
         have c8b1 : ((bt a0 x6_1) != 44) = false := bne_eq_false_iff_eq.mpr c8
         clear c8
         have H' := Aside0.mk H
         clear H
         have p7 : 0 ≤ (x6_1 : Int) := of_decide_eq_true zb3
         have q7 : x6_1 < (a0.size : Int) := of_decide_eq_true zb3
         have hx7 := bt_at a0 x6_1
         replace p7 := eq_true p7
         replace q7 := eq_true q7
         go_wp2
         go_meet
         case rel => exact ⟨_, (!x5_1), zb4, H', ⟨by have := HK1.out; first | omega | exact Nat.le_refl _⟩, ⟨by (with_reducible repeat (first | apply Kd.R_alloc | apply Kd.R_drewN | apply Kd.R_drew)); exact HO_3.out⟩, ⟨by repeat (first | (with_reducible first | exact HB.out | apply below_alloc | apply pw_below_drewN | apply below_drew1) | exact HB.out)⟩⟩
        ·rw [if_neg c8] at H
         have c8b0 : ((bt a0 x6_1) == 44) = false := beq_eq_false_iff_ne.mpr c8
         have c8b1 : ((bt a0 x6_1) != 44) = true := bne_iff_ne.mpr c8
         have H' := Aside0.mk H
         clear H
         have p7 : 0 ≤ (x6_1 : Int) := of_decide_eq_true zb3
         have q7 : x6_1 < (a0.size : Int) := of_decide_eq_true zb3
         have hx7 := bt_at a0 x6_1
         replace p7 := eq_true p7
         replace q7 := eq_true q7
         go_wp2
         go_meet
         case rel => exact ⟨_, (false), zb4, H', ⟨by have := HK1.out; first | omega | exact Nat.le_refl _⟩, ⟨by (with_reducible repeat (first | apply Kd.R_alloc | apply Kd.R_drewN | apply Kd.R_drew)); exact HO_3.out⟩, ⟨by repeat (first | (with_reducible first | exact HB.out | apply below_alloc | apply pw_below_drewN | apply below_drew1) | exact HB.out)⟩⟩
       ·rw [if_neg c6] at H
        exact absurd H zb45
      ·rw [if_neg c5] at H
       exact absurd H zb45
    case rest =>
     clear HC3
     try clear c1
     try clear c2
     try clear c2b0
     try clear p2
     try clear c4
     try clear c4b0
     try clear c4b1
     try clear c5
     try clear c5b0
     try clear c6
     try clear c6b0
     try clear p7
     try clear q7
     try clear hx7
     try clear c8
     try clear c8b0
     try clear c8b1
     try clear p7
     try clear q7
     obtain ⟨kq, x13_2, rfl, HA, HJ2, HO_3, HB⟩ := hcut
     cases kq with
     | zero => exact absurd HA.out (by simp [broadsheetref14_Split.j1])
     | succ kj2 =>
      have H := HA.out
      clear HA
      simp only [broadsheetref14_Split.j1] at H
      by_cases c9 : x13_2 = true
      ·subst c9
       replace H : (if 0 ≤ x4_1 then (if x4_1 ≤ x6_1 then (if x6_1 ≤ (a0.size : Int) then ((broadsheetref13_Skip.f kj2 (a0.extract (x4_1 : Int).toNat (x6_1 : Int).toNat)).bind fun t190 => (if t190.toList = ([] : List UInt8) then (broadsheetref14_Split.l0 kj2 a0 x3_1 (wrap64 (x6_1 + 1)) x5_1 (wrap64 (x6_1 + 1))) else (if x3_1.length < 8796093022208 then (broadsheetref14_Split.l0 kj2 a0 (x3_1 ++ [a0.extract (x4_1 : Int).toNat (x6_1 : Int).toNat]) (wrap64 (x6_1 + 1)) x5_1 (wrap64 (x6_1 + 1))) else (none)))) else (none)) else (none)) else (none)) = some r := by rw [if_pos rfl] at H; exact H
       by_cases c10 : 0 ≤ x4_1
       ·rw [if_pos c10] at H
        have c10b0 := eq_true c10
        have c10b1 : decide (0 ≤ x4_1) = true := decide_eq_true c10
        clear c10
        by_cases c11 : x4_1 ≤ x6_1
        ·rw [if_pos c11] at H
         have c11b0 := eq_true c11
         have c11b1 : decide (x4_1 ≤ x6_1) = true := decide_eq_true c11
         clear c11
         by_cases c12 : x6_1 ≤ (a0.size : Int)
         ·rw [if_pos c12] at H
          have c12b0 := eq_true c12
          have c12b1 : decide (x6_1 ≤ (a0.size : Int)) = true := decide_eq_true c12
          clear c12
          replace H := Option.bind_eq_some_iff.mp H
          obtain ⟨t190, A130, H⟩ := H
          replace H : (if t190.toList = ([] : List UInt8) then (broadsheetref14_Split.l0 kj2 a0 x3_1 (wrap64 (x6_1 + 1)) x5_1 (wrap64 (x6_1 + 1))) else (if x3_1.length < 8796093022208 then (broadsheetref14_Split.l0 kj2 a0 (x3_1 ++ [a0.extract (x4_1 : Int).toNat (x6_1 : Int).toNat]) (wrap64 (x6_1 + 1)) x5_1 (wrap64 (x6_1 + 1))) else (none))) = some r := H
          have A13 := Aside0.mk A130
          clear A130
          by_cases c14 : t190.toList = ([] : List UInt8)
          ·rw [if_pos c14] at H
           have c14b0 : (t190.toList == ([] : List UInt8)) = true := beq_iff_eq.mpr c14
           have c14b1 : (t190.toList != ([] : List UInt8)) = false := bne_eq_false_iff_eq.mpr c14
           clear c14
           have H' := Aside0.mk H
           clear H
           go_wp2_with (first | ((with_reducible refine gate_callee (f := 25) rfl ?_); refine goesL_ (some 32) rfl rfl Tryz.func25 zb9 rfl #[.string (a0.extract (x4_1 : Int).toNat (x6_1 : Int).toNat)] rfl zb2 ?_; (with_reducible refine (broadsheetref13_Skip.calls kj2 (a0.extract (x4_1 : Int).toNat (x6_1 : Int).toNat) t190 _ A13.out).mono ?_); rintro e w' ⟨rfl, ⟨nd, rfl⟩⟩; refine ⟨_, rfl, ?_⟩))
           go_roundg kj2
           case measure => have := HK1.out; have := HJ2.out; omega
           case rel => exact ⟨(x3_1), (wrap64 (x6_1 + 1)), (x5_1), (wrap64 (x6_1 + 1)), zb4, zb4, zb4, H', ⟨by have := HK1.out; have := HJ2.out; omega⟩, ⟨by (with_reducible repeat (first | apply Kd.R_alloc | apply Kd.R_drewN | apply Kd.R_drew)); exact HO_3.out⟩, ⟨by repeat (first | (with_reducible first | exact HB.out | apply below_alloc | apply pw_below_drewN | apply below_drew1) | exact HB.out)⟩⟩
          ·rw [if_neg c14] at H
           have c14b0 : (t190.toList == ([] : List UInt8)) = false := beq_eq_false_iff_ne.mpr c14
           have c14b1 : (t190.toList != ([] : List UInt8)) = true := bne_iff_ne.mpr c14
           have c15b0 := eq_true (of_decide_eq_true zb3 : 0 ≤ x4_1)
           have c16b0 := eq_true (of_decide_eq_true zb3 : x4_1 ≤ x6_1)
           have c17b0 := eq_true (of_decide_eq_true zb3 : x6_1 ≤ (a0.size : Int))
           by_cases c18 : x3_1.length < 8796093022208
           ·rw [if_pos c18] at H
            have LMc18 := Aside0.mk c18
            clear c18
            obtain ⟨y191, hy191⟩ : ∃ y_ : List ByteArray, y_ = (x3_1 ++ [a0.extract (x4_1 : Int).toNat (x6_1 : Int).toNat]) := ⟨_, rfl⟩
            replace H : (broadsheetref14_Split.l0 kj2 a0 y191 (wrap64 (x6_1 + 1)) x5_1 (wrap64 (x6_1 + 1))) = some r := by first | (rw [hy191]; with_reducible exact H) | (have H2_ := (Option.bind_some _ _).symm.trans H; rw [hy191]; with_reducible exact H2_) | (have H2_ := (Option.bind_some _ _).symm.trans H; with_reducible exact H2_) | with_reducible exact H | (rw [hy191]; exact H) | exact H
            have Ny191 := Aside0.mk hy191
            clear hy191
            have H' := Aside0.mk H
            clear H
            go_wp2_with (first | ((with_reducible refine gate_callee (f := 25) rfl ?_); refine goesL_ (some 32) rfl rfl Tryz.func25 zb9 rfl #[.string (a0.extract (x4_1 : Int).toNat (x6_1 : Int).toNat)] rfl zb2 ?_; (with_reducible refine (broadsheetref13_Skip.calls kj2 (a0.extract (x4_1 : Int).toNat (x6_1 : Int).toNat) t190 _ A13.out).mono ?_); rintro e w' ⟨rfl, ⟨nd, rfl⟩⟩; refine ⟨_, rfl, ?_⟩) | ((with_reducible refine gate_builtin (b := .append) (xs := #[.tmp 34, .tmp 39]) rfl ?_); (try (refine gate_guard (by rfl) ?_; dsimp only)); at_builtin; refine Kd.R_append Kd.string (w0 := w) w.heap.size rfl (.tmp 34) (.tmp 39) 33 9 (.string ⟨#[]⟩) 16 rfl Tryz.underlying33 info9 rfl zb47 zb42 u3 x3_1 (a0.extract (x4_1 : Int).toNat (x6_1 : Int).toNat) [.string (a0.extract (x4_1 : Int).toNat (x6_1 : Int).toNat)] (fun _ => True) (fun _ => False) rfl rfl ?aP (fun _ hk => hk.elim) ?aF ?aO ?aB ?aS ?aL ?_; (case aP => exact rfl); (case aB => exact zb0); (case aF => exact (fun _ _ => trivial)); (case aO => exact zb51); (case aS => exact (below_size zb0)); (case aL => have := LMc18.out; omega); intro v192 w19 ho hb hg hat; rw [← Ny191.out] at ho; have n0_ := Aside0.mk (hb); have n1_ := Aside0.mk (ho); clear HB; clear HO_3; have HB := n0_; have HO193 := n1_; clear n0_ n1_; clear ho hb hg hat))
            go_roundg kj2
            case measure => have := HK1.out; have := HJ2.out; omega
            case rel => exact ⟨(y191), (wrap64 (x6_1 + 1)), (x5_1), (wrap64 (x6_1 + 1)), zb4, zb4, zb4, H', ⟨by have := HK1.out; have := HJ2.out; omega⟩, ⟨by (with_reducible repeat (first | apply Kd.R_alloc | apply Kd.R_drewN | apply Kd.R_drew)); exact HO193.out⟩, ⟨by repeat (first | (with_reducible first | exact HB.out | apply below_alloc | apply pw_below_drewN | apply below_drew1) | exact HB.out)⟩⟩
           ·rw [if_neg c18] at H
            exact absurd H zb45
         ·rw [if_neg c12] at H
          exact absurd H zb45
        ·rw [if_neg c11] at H
         exact absurd H zb45
       ·rw [if_neg c10] at H
        exact absurd H zb45
      ·replace c9 := Bool.eq_false_iff.mpr c9
       subst c9
       replace H : (if 0 ≤ x6_1 then (if x6_1 < (a0.size : Int) then (if (bt a0 x6_1) = 34 then (broadsheetref14_Split.l0 kj2 a0 x3_1 x4_1 (!x5_1) (wrap64 (x6_1 + 1))) else (if (bt a0 x6_1) = 92 then (if x5_1 = true then (if (wrap64 (x6_1 + 1)) < (a0.size : Int) then (broadsheetref14_Split.l0 kj2 a0 x3_1 x4_1 x5_1 (wrap64 ((wrap64 (x6_1 + 1)) + 1))) else (broadsheetref14_Split.l0 kj2 a0 x3_1 x4_1 x5_1 (wrap64 (x6_1 + 1)))) else (broadsheetref14_Split.l0 kj2 a0 x3_1 x4_1 x5_1 (wrap64 (x6_1 + 1)))) else (broadsheetref14_Split.l0 kj2 a0 x3_1 x4_1 x5_1 (wrap64 (x6_1 + 1))))) else (none)) else (none)) = some r := by rw [if_neg (show ¬ (false = true) by decide)] at H; exact H
       by_cases c20 : 0 ≤ x6_1
       ·rw [if_pos c20] at H
        have c20b0 : decide (0 ≤ x6_1) = true := decide_eq_true c20
        clear c20
        by_cases c21 : x6_1 < (a0.size : Int)
        ·rw [if_pos c21] at H
         have c21b0 : decide (x6_1 < (a0.size : Int)) = true := decide_eq_true c21
         clear c21
         by_cases c23 : (bt a0 x6_1) = 34
         ·rw [if_pos c23] at H
          have c23b0 : ((bt a0 x6_1) == 34) = true := beq_iff_eq.mpr c23
          have c23b1 : ((bt a0 x6_1) != 34) = false := bne_eq_false_iff_eq.mpr c23
          clear c23
          have H' := Aside0.mk H
          clear H
          have p22 : 0 ≤ (x6_1 : Int) := of_decide_eq_true zb3
          have q22 : x6_1 < (a0.size : Int) := of_decide_eq_true zb3
          have hx22 := bt_at a0 x6_1
          replace p22 := eq_true p22
          replace q22 := eq_true q22
          go_wp2
          go_roundg kj2
          case measure => have := HK1.out; have := HJ2.out; omega
          case rel => exact ⟨(x3_1), (x4_1), (!x5_1), (wrap64 (x6_1 + 1)), zb4, zb4, zb4, H', ⟨by have := HK1.out; have := HJ2.out; omega⟩, ⟨by (with_reducible repeat (first | apply Kd.R_alloc | apply Kd.R_drewN | apply Kd.R_drew)); exact HO_3.out⟩, ⟨by repeat (first | (with_reducible first | exact HB.out | apply below_alloc | apply pw_below_drewN | apply below_drew1) | exact HB.out)⟩⟩
         ·rw [if_neg c23] at H
          have c23b0 : ((bt a0 x6_1) == 34) = false := beq_eq_false_iff_ne.mpr c23
          have c23b1 : ((bt a0 x6_1) != 34) = true := bne_iff_ne.mpr c23
          by_cases c25 : (bt a0 x6_1) = 92
          ·rw [if_pos c25] at H
           have c25b0 : ((bt a0 x6_1) == 92) = true := beq_iff_eq.mpr c25
           have c25b1 : ((bt a0 x6_1) != 92) = false := bne_eq_false_iff_eq.mpr c25
           clear c25
           by_cases c26 : x5_1 = true
           ·subst c26
            replace H : (if (wrap64 (x6_1 + 1)) < (a0.size : Int) then (broadsheetref14_Split.l0 kj2 a0 x3_1 x4_1 true (wrap64 ((wrap64 (x6_1 + 1)) + 1))) else (broadsheetref14_Split.l0 kj2 a0 x3_1 x4_1 true (wrap64 (x6_1 + 1)))) = some r := by rw [if_pos rfl] at H; exact H
            by_cases c27 : (wrap64 (x6_1 + 1)) < (a0.size : Int)
            ·rw [if_pos c27] at H
             have c27b0 : decide ((wrap64 (x6_1 + 1)) < (a0.size : Int)) = true := decide_eq_true c27
             clear c27
             have H' := Aside0.mk H
             clear H
             have p22 : 0 ≤ (x6_1 : Int) := of_decide_eq_true zb3
             have q22 : x6_1 < (a0.size : Int) := of_decide_eq_true zb3
             have hx22 := bt_at a0 x6_1
             replace p22 := eq_true p22
             replace q22 := eq_true q22
             have p24 : 0 ≤ (x6_1 : Int) := of_decide_eq_true zb3
             have q24 : x6_1 < (a0.size : Int) := of_decide_eq_true zb3
             have hx24 := bt_at a0 x6_1
             replace p24 := eq_true p24
             replace q24 := eq_true q24
             go_wp2
             go_roundg kj2
             case measure => have := HK1.out; have := HJ2.out; omega
             case rel => exact ⟨(x3_1), (x4_1), (true), (wrap64 ((wrap64 (x6_1 + 1)) + 1)), zb4, zb4, zb4, H', ⟨by have := HK1.out; have := HJ2.out; omega⟩, ⟨by (with_reducible repeat (first | apply Kd.R_alloc | apply Kd.R_drewN | apply Kd.R_drew)); exact HO_3.out⟩, ⟨by repeat (first | (with_reducible first | exact HB.out | apply below_alloc | apply pw_below_drewN | apply below_drew1) | exact HB.out)⟩⟩
            ·rw [if_neg c27] at H
             have c27b0 : decide ((wrap64 (x6_1 + 1)) < (a0.size : Int)) = false := decide_eq_false c27
             clear c27
             have H' := Aside0.mk H
             clear H
             have p22 : 0 ≤ (x6_1 : Int) := of_decide_eq_true zb3
             have q22 : x6_1 < (a0.size : Int) := of_decide_eq_true zb3
             have hx22 := bt_at a0 x6_1
             replace p22 := eq_true p22
             replace q22 := eq_true q22
             have p24 : 0 ≤ (x6_1 : Int) := of_decide_eq_true zb3
             have q24 : x6_1 < (a0.size : Int) := of_decide_eq_true zb3
             have hx24 := bt_at a0 x6_1
             replace p24 := eq_true p24
             replace q24 := eq_true q24
             go_wp2
             go_roundg kj2
             case measure => have := HK1.out; have := HJ2.out; omega
             case rel => exact ⟨(x3_1), (x4_1), (true), (wrap64 (x6_1 + 1)), zb4, zb4, zb4, H', ⟨by have := HK1.out; have := HJ2.out; omega⟩, ⟨by (with_reducible repeat (first | apply Kd.R_alloc | apply Kd.R_drewN | apply Kd.R_drew)); exact HO_3.out⟩, ⟨by repeat (first | (with_reducible first | exact HB.out | apply below_alloc | apply pw_below_drewN | apply below_drew1) | exact HB.out)⟩⟩
           ·replace c26 := Bool.eq_false_iff.mpr c26
            subst c26
            replace H : (broadsheetref14_Split.l0 kj2 a0 x3_1 x4_1 false (wrap64 (x6_1 + 1))) = some r := by rw [if_neg (show ¬ (false = true) by decide)] at H; exact H
            have H' := Aside0.mk H
            clear H
            have p22 : 0 ≤ (x6_1 : Int) := of_decide_eq_true zb3
            have q22 : x6_1 < (a0.size : Int) := of_decide_eq_true zb3
            have hx22 := bt_at a0 x6_1
            replace p22 := eq_true p22
            replace q22 := eq_true q22
            have p24 : 0 ≤ (x6_1 : Int) := of_decide_eq_true zb3
            have q24 : x6_1 < (a0.size : Int) := of_decide_eq_true zb3
            have hx24 := bt_at a0 x6_1
            replace p24 := eq_true p24
            replace q24 := eq_true q24
            go_wp2
            go_roundg kj2
            case measure => have := HK1.out; have := HJ2.out; omega
            case rel => exact ⟨(x3_1), (x4_1), (false), (wrap64 (x6_1 + 1)), zb4, zb4, zb4, H', ⟨by have := HK1.out; have := HJ2.out; omega⟩, ⟨by (with_reducible repeat (first | apply Kd.R_alloc | apply Kd.R_drewN | apply Kd.R_drew)); exact HO_3.out⟩, ⟨by repeat (first | (with_reducible first | exact HB.out | apply below_alloc | apply pw_below_drewN | apply below_drew1) | exact HB.out)⟩⟩
          ·rw [if_neg c25] at H
           have c25b0 : ((bt a0 x6_1) == 92) = false := beq_eq_false_iff_ne.mpr c25
           have c25b1 : ((bt a0 x6_1) != 92) = true := bne_iff_ne.mpr c25
           have H' := Aside0.mk H
           clear H
           have p22 : 0 ≤ (x6_1 : Int) := of_decide_eq_true zb3
           have q22 : x6_1 < (a0.size : Int) := of_decide_eq_true zb3
           have hx22 := bt_at a0 x6_1
           replace p22 := eq_true p22
           replace q22 := eq_true q22
           have p24 : 0 ≤ (x6_1 : Int) := of_decide_eq_true zb3
           have q24 : x6_1 < (a0.size : Int) := of_decide_eq_true zb3
           have hx24 := bt_at a0 x6_1
           replace p24 := eq_true p24
           replace q24 := eq_true q24
           go_wp2
           go_roundg kj2
           case measure => have := HK1.out; have := HJ2.out; omega
           case rel => exact ⟨(x3_1), (x4_1), (x5_1), (wrap64 (x6_1 + 1)), zb4, zb4, zb4, H', ⟨by have := HK1.out; have := HJ2.out; omega⟩, ⟨by (with_reducible repeat (first | apply Kd.R_alloc | apply Kd.R_drewN | apply Kd.R_drew)); exact HO_3.out⟩, ⟨by repeat (first | (with_reducible first | exact HB.out | apply below_alloc | apply pw_below_drewN | apply below_drew1) | exact HB.out)⟩⟩
        ·rw [if_neg c21] at H
         exact absurd H zb45
       ·rw [if_neg c20] at H
        exact absurd H zb45
   ·rw [if_neg c2] at H
    have c2b0 : decide (x6_1 ≤ (a0.size : Int)) = false := decide_eq_false c2
    clear c2
    obtain rfl := Option.some.inj H
    go_wp2
    go_ret
    exact ⟨_, by first | rfl | (simp [errW_none, errW_some, bne_nil_] <;> rfl) | (simp [*, errW_none, errW_some] <;> rfl), by (with_reducible repeat (first | apply Kd.R_alloc | apply Kd.R_drewN | apply Kd.R_drew)); exact HO_3.out, zb0⟩
end Go.Proofs.YtghfbhobpodoeaaGreatDoor.P
/- SpRsp -/
namespace Go.Proofs.YtghfbhobpodoeaaGreatDoor.Sp
open Go Go.RowKit Go.Proofs.YtghfbhobpodoeaaGreatDoorW.PrintWords Go.Proofs.YtghfbhobpodoeaaGreatDoorW.PrintLast Go.Proofs.YtghfbhobpodoeaaGreatDoor.O Go.Proofs.YtghfbhobpodoeaaGreatDoor.P
set_option linter.unusedVariables false
set_option linter.unusedSimpArgs false
theorem spl_cons_ (c : UInt8) (r : L) (q : Bool) (cur : L) (out : List L) : splL (c :: r) q cur out = if c = 34 then splL r (!q) (cur ++ [c]) out
    else if c = 92 ∧ q = true then (match r with
      | [] => putQ (cur ++ [c]) out
      | d :: r' => splL r' q (cur ++ [c, d]) out)
    else if c = 44 ∧ q = false then splL r q [] (putQ cur out)
    else splL r q (cur ++ [c]) out := by
  conv => lhs; unfold splL
  cases r <;> rfl
theorem trim_skip (s : L) : trim s = [] ↔ skip s = [] := by
  unfold trim
  constructor
  · intro h
    by_cases hs : skip s = []
    · exact hs
    · obtain ⟨c, r, hc, hb⟩ := skip_head hs
      have h1 : skip (skip s).reverse = [] := by simpa using h
      have := skip_nil h1 c (by rw [List.mem_reverse, hc]; simp)
      rw [hb] at this
      cases this
  · intro h
    rw [h]
    rfl
theorem rspl_l0 (s : L) (hs : s.length ≤ 100000) : ∀ (d k i a : Nat) (q : Bool) (out : List L), i + d = s.length → 3 * d + 200000 ≤ k → a ≤ i → out.length ≤ i →
    broadsheetref14_Split.l0 k (mk s) (out.map mk) (a : Int) q (i : Int) = some ((splL (s.drop i) q ((s.drop a).take (i - a)) out).map mk) := by
  intro d
  induction d using Nat.strongRecOn with
  | _ d ih =>
    intro k i a q out hi hk ha ho
    obtain ⟨k, rfl⟩ : ∃ m, k = m + 1 + 1 := ⟨k - 2, by omega⟩
    have hput : ∀ (k : Nat), s.length + 1 ≤ k → (out.map mk).length ≤ 200000 → i ≤ s.length → broadsheetref14_Split.j1 (k + 1) (mk s) (out.map mk) (a : Int) q (i : Int) true = broadsheetref14_Split.l0 k (mk s) ((putQ ((s.drop a).take (i - a)) out).map mk) ((i + 1 : Nat) : Int) q ((i + 1 : Nat) : Int) := by
      intro k hk2 hol hil
      rw [broadsheetref14_Split.j1, if_pos rfl, if_pos (by omega), if_pos (by omega), if_pos (by rw [mk_size]; omega), Int.toNat_natCast, Int.toNat_natCast, ext_mk,
        rskipF _ k (by rw [List.length_take, List.length_drop]; omega), Option.bind_some, tl_mk, w1_ i (by omega)]
      unfold putQ
      by_cases h : trim ((s.drop a).take (i - a)) = []
      · rw [if_pos ((trim_skip _).1 h), if_pos h]
      · rw [if_neg (fun x => h ((trim_skip _).2 x)), if_neg h, if_pos (by rw [List.length_map] at hol ⊢; omega)]
        simp
    by_cases hlt : i < s.length
    · obtain ⟨b, hd, hb⟩ := mk_bt s i hlt
      have c34 : ((b.toNat : Int) = 34) ↔ b = 34 := u8c b 34 (by decide)
      have c92 : ((b.toNat : Int) = 92) ↔ b = 92 := u8c b 92 (by decide)
      have c44 : ((b.toNat : Int) = 44) ↔ b = 44 := u8c b 44 (by decide)
      have hsn := cur_snoc s a i b ha hd
      rw [broadsheetref14_Split.l0, if_pos (by rw [mk_size]; omega), if_neg (by rw [mk_size]; omega), if_pos (by omega), if_pos (by rw [mk_size]; omega), hb, hd, spl_cons_]
      have hgo : b ≠ 44 ∨ q = true → (if (b.toNat : Int) = 44 then broadsheetref14_Split.j1 (k + 1) (mk s) (out.map mk) (a : Int) q (i : Int) (!q) else broadsheetref14_Split.j1 (k + 1) (mk s) (out.map mk) (a : Int) q (i : Int) false) = broadsheetref14_Split.j1 (k + 1) (mk s) (out.map mk) (a : Int) q (i : Int) false := by
        intro h
        by_cases h44 : (b.toNat : Int) = 44
        · rw [if_pos h44]
          rcases h with h | h
          · exact absurd (c44.1 h44) h
          · rw [h]; rfl
        · rw [if_neg h44]
      by_cases h34 : b = 34
      · rw [hgo (.inl (by rw [h34]; decide)), if_pos h34, broadsheetref14_Split.j1, if_neg (by decide), if_pos (by omega), if_pos (by rw [mk_size]; omega), hb, if_pos (c34.2 h34), w1_ i (by omega), ih (d - 1) (by omega) k (i + 1) a (!q) out (by omega) (by omega) (by omega) (by omega), hsn]
      · rw [if_neg h34]
        by_cases h92 : b = 92 ∧ q = true
        · rw [hgo (.inr h92.2), if_pos h92, broadsheetref14_Split.j1, if_neg (by decide), if_pos (by omega), if_pos (by rw [mk_size]; omega), hb, if_neg (fun x => h34 (c34.1 x)), if_pos (c92.2 h92.1), if_pos h92.2, w1_ i (by omega)]
          by_cases hl : i + 1 < s.length
          · obtain ⟨e, hd2, _⟩ := mk_bt s (i + 1) hl
            have hsn2 := cur_snoc s a (i + 1) e (by omega) hd2
            rw [if_pos (by rw [mk_size]; omega), w1_ (i + 1) (by omega), hd2]
            simp only
            rw [ih (d - 2) (by omega) k (i + 1 + 1) a q out (by omega) (by omega) (by omega) (by omega), hsn2, hsn]
            simp
          · have hn : s.drop (i + 1) = [] := List.drop_eq_nil_of_le (by omega)
            rw [if_neg (by rw [mk_size]; omega), hn]
            simp only
            rw [ih (d - 1) (by omega) k (i + 1) a q out (by omega) (by omega) (by omega) (by omega), hn, hsn]
            rfl
        · rw [if_neg h92]
          by_cases h44 : b = 44 ∧ q = false
          · rw [if_pos (c44.2 h44.1), h44.2]
            show broadsheetref14_Split.j1 (k + 1) (mk s) (out.map mk) (a : Int) false (i : Int) true = _
            have hp := hput k (by omega) (by rw [List.length_map]; omega) (by omega)
            rw [h44.2] at hp
            have hl2 : (putQ ((s.drop a).take (i - a)) out).length ≤ out.length + 1 := putQ_len _ _
            rw [hp, ih (d - 1) (by omega) k (i + 1) (i + 1) false _ (by omega) (by omega) (by omega) (by omega), if_pos ⟨h44.1, rfl⟩]
            simp
          · have h44' : b ≠ 44 ∨ q = true := by
              by_cases x : b = 44
              · right
                cases hq : q
                · exact absurd ⟨x, hq⟩ h44
                · rfl
              · exact .inl x
            rw [hgo h44', if_neg h44, broadsheetref14_Split.j1, if_neg (by decide), if_pos (by omega), if_pos (by rw [mk_size]; omega), hb, if_neg (fun x => h34 (c34.1 x)), w1_ i (by omega)]
            have hrest := ih (d - 1) (by omega) k (i + 1) a q out (by omega) (by omega) (by omega) (by omega)
            rw [hsn] at hrest
            by_cases h92b : (b.toNat : Int) = 92
            · rw [if_pos h92b, if_neg (fun x => h92 ⟨c92.1 h92b, x⟩), hrest]
            · rw [if_neg h92b, hrest]
    · obtain rfl : i = s.length := by omega
      rw [broadsheetref14_Split.l0, if_pos (by rw [mk_size]; omega), if_pos (by rw [mk_size]), hput k (by omega) (by rw [List.length_map]; omega) (Nat.le_refl _)]
      obtain ⟨k, rfl⟩ : ∃ m, k = m + 1 := ⟨k - 1, by omega⟩
      rw [broadsheetref14_Split.l0, if_neg (by rw [mk_size]; omega), List.drop_of_length_le (Nat.le_refl _)]
      rfl
theorem rsplitF (s : L) (k : Nat) (hs : s.length ≤ 100000) (hk : 3 * s.length + 200000 ≤ k) : broadsheetref14_Split.f k (mk s) = some ((split s).map mk) := by
  unfold broadsheetref14_Split.f
  have := rspl_l0 s hs s.length k 0 0 false [] (by omega) (by omega) (Nat.le_refl _) (by simp)
  simpa [split] using this
end Go.Proofs.YtghfbhobpodoeaaGreatDoor.Sp
