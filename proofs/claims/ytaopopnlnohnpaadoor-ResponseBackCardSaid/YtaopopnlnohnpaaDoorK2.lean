/- Texts of this seat, joined: lemmas and walks that its statements' proofs use. -/
import Derived.Test.YtaopopnlnohnpaaDoorK1
import Derived.Laws.Append
import Derived.Laws.AppendOwn
/- Px11 -/
namespace Go.Proofs.YtaopopnlnohnpaaDoor.P
open Go.Proofs.YtaopopnlnohnpaaDoor.B
open Go.RowKit Go.Proofs.YtaopopnlnohnpaaDoorW.PrintWords Go.Proofs.YtaopopnlnohnpaaDoorW.PrintLast Go.Proofs.YtaopopnlnohnpaaDoorW.PrintMore
attribute [local go_sem] str_leq str_gtr str_geq max2_int min2_int max_two min_two max_three min_three max_four min_four
set_option linter.unusedVariables false
set_option linter.unusedSimpArgs false
open Go.Proofs.YtaopopnlnohnpaaDoor.O
attribute [local go_sem high] eqA35
def response_Parse.j0 : Nat → ByteArray → Int → Bool → Option (Int × (List (S35)) × ByteArray × Int)
  | 0, _, _, _ => none
  | k + 1, x5, x7, x26 => if x26 = true then (some (0, ([] : List (S35)), (⟨#[]⟩ : ByteArray), 200)) else ((field_Parse.f x5).bind fun bt159 => (if bt159.2.2 = 0 then ((response_bare.f x7).bind fun t165 => (if t165 = true then ((response_lengths.f k bt159.1).bind fun t166 => (if t166 > 0 then (some (0, ([] : List (S35)), (⟨#[]⟩ : ByteArray), 190)) else (if bt159.2.1.toList = ([] : List UInt8) then (some (x7, bt159.1, bt159.2.1, 0)) else (some (0, ([] : List (S35)), (⟨#[]⟩ : ByteArray), 190))))) else ((response_lengths.f k bt159.1).bind fun t167 => (if t167 = 1 then (if 0 ≤ (wrap64 ((bt159.1.length : Int) - 1)) then (if (wrap64 ((bt159.1.length : Int) - 1)) < (bt159.1.length : Int) then ((strconv_Itoa.f (bt159.2.1.size : Int)).bind fun t169 => (if (!((((rd_T35 bt159.1 (wrap64 ((bt159.1.length : Int) - 1))).f0).toList) == ([99, 111, 110, 116, 101, 110, 116, 45, 108, 101, 110, 103, 116, 104] : List UInt8)) || (!((((rd_T35 bt159.1 (wrap64 ((bt159.1.length : Int) - 1))).f1).toList) == t169.toList))) = true then (some (0, ([] : List (S35)), (⟨#[]⟩ : ByteArray), 190)) else (if (bt159.2.1.size : Int) > 100000 then (some (0, ([] : List (S35)), (⟨#[]⟩ : ByteArray), 190)) else (if (wrap64 ((bt159.1.length : Int) - 1)) ≤ (bt159.1.length : Int) then (some (x7, (bt159.1.take ((wrap64 ((bt159.1.length : Int) - 1)) : Int).toNat), bt159.2.1, 0)) else (none))))) else (none)) else (none)) else (some (0, ([] : List (S35)), (⟨#[]⟩ : ByteArray), 190)))))) else (some (0, ([] : List (S35)), (⟨#[]⟩ : ByteArray), bt159.2.2))))
def response_Parse.f (k : Nat) (a0 : ByteArray) : Option (Int × (List (S35)) × ByteArray × Int) := (strings_Cut.f a0 (⟨#[13, 10]⟩ : ByteArray)).bind fun bt155 => ((response_status.f bt155.1).bind fun t158 => (if bt155.2.2 = true then (response_Parse.j0 k bt155.2.1 t158 (t158 == 0)) else (response_Parse.j0 k bt155.2.1 t158 true)))
def response_Parse.T14 : Bool × List (List Nat × List Nat) := (true, [([], []), ([0], [0]), ([1], [1]), ([2, 1], [2]), ([3], [3]), ([3], [3]), ([4, 5, 3], [3, 4, 5]), ([6, 3], [3, 6]), ([3], [3]), ([8, 3], [3, 8]), ([9, 3, 3], [3, 9]), ([10, 3], [3, 10]), ([7, 11, 3], [3, 7, 11]), ([3, 12], [3, 12]), ([13, 10], [13]), ([14], [14]), ([15, 14], [14, 15]), ([16, 14], [14, 16]), ([14, 17], [14, 17])])
def response_Parse.B14 : List Nat := [0, 1, 3, 7, 15, 15, 63, 127, 15, 271, 783, 1807, 4095, 8191, 16383, 32767, 65535, 131071, 262143]
theorem response_Parse.tab14 : rtab .any (opsOf Tryd.f9 14) = response_Parse.T14 := by kernel_rfl
theorem response_Parse.bits14 : waitsOk response_Parse.T14.2 response_Parse.B14 = true := by kernel_rfl
set_option maxHeartbeats 8000000 in
set_option maxRecDepth 100000 in
theorem response_Parse.calls (k : Nat) (a0 : ByteArray) (r1 : Int) (r2 : List (S35)) (r3 : ByteArray) (r4 : Int) (w : World) (hG : Glob w) (h : response_Parse.f k a0 = some (r1, r2, r3, r4)) :
  Calls Tryd.prog 9 #[.string a0] w fun e w' => ∃ v1_ : Value, e = .returned (.tuple #[.agg #[.int .i64 r1, v1_, .string r3], .int .i64 r4]) ∧ Kd.R k35 35 w' w.heap.size (fun _ => True) v1_ r2 ∧ Below w.heap.size w w' := by
 have hu24 := Tryd.underlying24
 have hu35 := Tryd.underlying35
 have HB := Aside0.mk (Below.refl w.heap.size w)
 have hGA := Aside0.mk hG
 clear hG
 have H : ((strings_Cut.f a0 (⟨#[13, 10]⟩ : ByteArray)).bind fun bt155 => ((response_status.f bt155.1).bind fun t158 => (if bt155.2.2 = true then (response_Parse.j0 k bt155.2.1 t158 (t158 == 0)) else (response_Parse.j0 k bt155.2.1 t158 true)))) = some (r1, r2, r3, r4) := h
 clear h
 replace H := Option.bind_eq_some_iff.mp H
 obtain ⟨⟨t155, t156, t157⟩, A20, H⟩ := H
 replace H : ((response_status.f t155).bind fun t158 => (if t157 = true then (response_Parse.j0 k t156 t158 (t158 == 0)) else (response_Parse.j0 k t156 t158 true))) = some (r1, r2, r3, r4) := H
 have A2 := Aside0.mk A20
 clear A20
 replace H := Option.bind_eq_some_iff.mp H
 obtain ⟨t158, A30, H⟩ := H
 replace H : (if t157 = true then (response_Parse.j0 k t156 t158 (t158 == 0)) else (response_Parse.j0 k t156 t158 true)) = some (r1, r2, r3, r4) := H
 have A3 := Aside0.mk A30
 clear A30
 have HC4 := Aside0.mk H
 clear H
 go_enter Tryd.func9, Tryd.ntmps9
 go_upto_region 3 with (first | ((with_reducible refine gate_dst (N := 2) rfl ?_); (try (refine gate_guard (by rfl) ?_; dsimp only)); refine box_event ?hg (N := 2) ?hd (cs := #[.int .i64 0, .slice none 0 0, .string (⟨#[]⟩ : ByteArray)]) (t := 24) ?hr ?_; (case hd => rfl); (case hg => rfl); (case hr => first | (go_simp; done) | (go_simp; rfl)); intro gb154 hg w5 hbox hb; have n0_ := Aside0.mk (below_step zb0 hb); have n1_ := Aside0.mk (hbox); have n2_ := Aside0.mk ((by rw [hg]; exact (below_size zb0) : w.heap.size ≤ gb154)); have n3_ := Aside0.mk ((by rw [hg]; exact (below_size zb0) : w.heap.size ≤ gb154)); clear HB; have HB := n0_; have BK154 := n1_; have GW154 := n2_; have GE154 := n3_; clear n0_ n1_ n2_ n3_; clear hb hbox hg) | ((with_reducible refine gate_callee (f := 18) rfl ?_); refine goesL_ (some 15) rfl rfl Tryd.func18 zb11 rfl #[.string a0, .string (⟨#[13, 10]⟩ : ByteArray)] rfl zb1 ?_; (with_reducible refine (strings_Cut.calls a0 (⟨#[13, 10]⟩ : ByteArray) t155 t156 t157 _ ?side1 A2.out).mono ?_); (case side1 => exact Glob.below hGA.out zb3); rintro e w6 ⟨rfl, hb⟩; refine ⟨_, rfl, ?_⟩; have n0_ := Aside0.mk (blk_below (g := gb154) (o := .cells #[.int .i64 0, .slice none 0 0, .string (⟨#[]⟩ : ByteArray)] 24 (0, 0)) zb4 hb); have n1_ := Aside0.mk (below_step zb3 hb); clear BK154; clear HB; have BK154 := n0_; have HB := n1_; clear n0_ n1_; (try clear hb); (try clear hb2); (try clear hk); (try clear hi)) | ((with_reducible refine gate_callee (f := 19) rfl ?_); refine goesL_ (some 20) rfl rfl Tryd.func19 zb11 rfl #[.string t155] rfl zb1 ?_; (with_reducible refine (response_status.calls t155 t158 _ ?side1 A3.out).mono ?_); (case side1 => exact Glob.below hGA.out zb3); rintro e w7 ⟨rfl, hb⟩; refine ⟨_, rfl, ?_⟩; have n0_ := Aside0.mk (blk_below (g := gb154) (o := .cells #[.int .i64 0, .slice none 0 0, .string (⟨#[]⟩ : ByteArray)] 24 (0, 0)) zb4 hb); have n1_ := Aside0.mk (below_step zb3 hb); clear BK154; clear HB; have BK154 := n0_; have HB := n1_; clear n0_ n1_; (try clear hb); (try clear hb2); (try clear hk); (try clear hi)))
 (try simp only [Act.put, List.setIfInBounds_toArray, List.set_cons_zero, List.set_cons_succ])
 go_cut [26] (fun v26 wc => ∃ (kq : Nat) (x26_3 : Bool), v26 = .bool x26_3 ∧ Aside0 (response_Parse.j0 kq t156 t158 x26_3 = some (r1, r2, r3, r4)) ∧ Aside0 (kq ≤ k) ∧ Aside0 (wc.heap[gb154]? = some (.cells #[.int .i64 0, (.slice none 0 0), .string (⟨#[]⟩ : ByteArray)] 24 (0, 0))) ∧ Aside0 (Below w.heap.size w wc))
 case first =>
  have H := HC4.out
  clear HC4
  by_cases c8 : t157 = true
  ·subst c8
   replace H : (response_Parse.j0 k t156 t158 (t158 == 0)) = some (r1, r2, r3, r4) := by rw [if_pos rfl] at H; exact H
   have H' := Aside0.mk H
   clear H
   go_wp2
   go_meet
   case rel => exact ⟨_, ((t158 == 0)), zb19, H', ⟨by first | omega | exact Nat.le_refl _⟩, ⟨by (with_reducible repeat (first | refine blk_drewN ?_ _ | refine blk_drew ?_ | refine blk_alloc ?_ _)); exact BK154.out⟩, ⟨by repeat (first | (with_reducible first | exact HB.out | apply below_alloc | apply pw_below_drewN | apply below_drew1 | refine below_set ?_ GE154.out) | exact HB.out | exact ⟨HB.out.os, HB.out.tape, HB.out.output, HB.out.size, HB.out.block⟩)⟩⟩
  ·replace c8 := Bool.eq_false_iff.mpr c8
   subst c8
   replace H : (response_Parse.j0 k t156 t158 true) = some (r1, r2, r3, r4) := by rw [if_neg (show ¬ (false = true) by decide)] at H; exact H
   have H' := Aside0.mk H
   clear H
   go_wp2
   go_meet
   case rel => exact ⟨_, (true), zb19, H', ⟨by first | omega | exact Nat.le_refl _⟩, ⟨by (with_reducible repeat (first | refine blk_drewN ?_ _ | refine blk_drew ?_ | refine blk_alloc ?_ _)); exact BK154.out⟩, ⟨by repeat (first | (with_reducible first | exact HB.out | apply below_alloc | apply pw_below_drewN | apply below_drew1 | refine below_set ?_ GE154.out) | exact HB.out | exact ⟨HB.out.os, HB.out.tape, HB.out.output, HB.out.size, HB.out.block⟩)⟩⟩
 case rest =>
  clear HC4
  try clear c1
  try clear p2
  try clear c8
  obtain ⟨kq, x26_3, rfl, HA, HJ3, BK154, HB⟩ := hcut
  cases kq with
  | zero => exact absurd HA.out (by simp [response_Parse.j0])
  | succ kj3 =>
   have H := HA.out
   clear HA
   simp only [response_Parse.j0] at H
   by_cases c9 : x26_3 = true
   ·subst c9
    replace H : (some (0, ([] : List (S35)), (⟨#[]⟩ : ByteArray), 200)) = some (r1, r2, r3, r4) := by rw [if_pos rfl] at H; exact H
    simp only [Option.some.injEq, Prod.mk.injEq] at H
    obtain ⟨rfl, rfl, rfl, rfl⟩ := H
    have hcz10_0 : wc.cell? ⟨gb154, 0, none⟩ = some (.int .i64 0) := (blk_cell BK154.out 0).trans rfl
    have hcz10_1 : wc.cell? ⟨gb154, 1, none⟩ = some (.slice none 0 0) := (blk_cell BK154.out 1).trans rfl
    have hcz10_2 : wc.cell? ⟨gb154, 2, none⟩ = some (.string (⟨#[]⟩ : ByteArray)) := (blk_cell BK154.out 2).trans rfl
    have hfz10_0 := blk_frozen BK154.out 0
    have hfz10_1 := blk_frozen BK154.out 1
    have hfz10_2 := blk_frozen BK154.out 2
    go_wp2
    refine bodyPost_ret (results_ct rfl _ _ gb154 24 #[.int .i64 0, .slice none 0 0, .string (⟨#[]⟩ : ByteArray)] (0, 0) _ rfl zb6 Tryd.underlying24 rfl zb11) rfl ?_
    exact ⟨_, by first | rfl | (simp [errW_none, errW_some, bne_nil_] <;> rfl) | (simp [*, errW_none, errW_some] <;> rfl), by first | exact Kd.R_nil _ _ _ _ _ | exact Kd.N_nil _ _ _ _ _ | exact Kd.V_nil _ _ _ _ _ | exact Kd.Q_nil _ _ _ _ _ | exact Kd.S_nil _ _ _ _ _, zb3⟩
   ·replace c9 := Bool.eq_false_iff.mpr c9
    subst c9
    replace H : ((field_Parse.f t156).bind fun bt159 => (if bt159.2.2 = 0 then ((response_bare.f t158).bind fun t165 => (if t165 = true then ((response_lengths.f kj3 bt159.1).bind fun t166 => (if t166 > 0 then (some (0, ([] : List (S35)), (⟨#[]⟩ : ByteArray), 190)) else (if bt159.2.1.toList = ([] : List UInt8) then (some (t158, bt159.1, bt159.2.1, 0)) else (some (0, ([] : List (S35)), (⟨#[]⟩ : ByteArray), 190))))) else ((response_lengths.f kj3 bt159.1).bind fun t167 => (if t167 = 1 then (if 0 ≤ (wrap64 ((bt159.1.length : Int) - 1)) then (if (wrap64 ((bt159.1.length : Int) - 1)) < (bt159.1.length : Int) then ((strconv_Itoa.f (bt159.2.1.size : Int)).bind fun t169 => (if (!((((rd_T35 bt159.1 (wrap64 ((bt159.1.length : Int) - 1))).f0).toList) == ([99, 111, 110, 116, 101, 110, 116, 45, 108, 101, 110, 103, 116, 104] : List UInt8)) || (!((((rd_T35 bt159.1 (wrap64 ((bt159.1.length : Int) - 1))).f1).toList) == t169.toList))) = true then (some (0, ([] : List (S35)), (⟨#[]⟩ : ByteArray), 190)) else (if (bt159.2.1.size : Int) > 100000 then (some (0, ([] : List (S35)), (⟨#[]⟩ : ByteArray), 190)) else (if (wrap64 ((bt159.1.length : Int) - 1)) ≤ (bt159.1.length : Int) then (some (t158, (bt159.1.take ((wrap64 ((bt159.1.length : Int) - 1)) : Int).toNat), bt159.2.1, 0)) else (none))))) else (none)) else (none)) else (some (0, ([] : List (S35)), (⟨#[]⟩ : ByteArray), 190)))))) else (some (0, ([] : List (S35)), (⟨#[]⟩ : ByteArray), bt159.2.2)))) = some (r1, r2, r3, r4) := by rw [if_neg (show ¬ (false = true) by decide)] at H; exact H
    replace H := Option.bind_eq_some_iff.mp H
    obtain ⟨⟨t159, t160, t161⟩, A110, H⟩ := H
    replace H : (if t161 = 0 then ((response_bare.f t158).bind fun t165 => (if t165 = true then ((response_lengths.f kj3 t159).bind fun t166 => (if t166 > 0 then (some (0, ([] : List (S35)), (⟨#[]⟩ : ByteArray), 190)) else (if t160.toList = ([] : List UInt8) then (some (t158, t159, t160, 0)) else (some (0, ([] : List (S35)), (⟨#[]⟩ : ByteArray), 190))))) else ((response_lengths.f kj3 t159).bind fun t167 => (if t167 = 1 then (if 0 ≤ (wrap64 ((t159.length : Int) - 1)) then (if (wrap64 ((t159.length : Int) - 1)) < (t159.length : Int) then ((strconv_Itoa.f (t160.size : Int)).bind fun t169 => (if (!((((rd_T35 t159 (wrap64 ((t159.length : Int) - 1))).f0).toList) == ([99, 111, 110, 116, 101, 110, 116, 45, 108, 101, 110, 103, 116, 104] : List UInt8)) || (!((((rd_T35 t159 (wrap64 ((t159.length : Int) - 1))).f1).toList) == t169.toList))) = true then (some (0, ([] : List (S35)), (⟨#[]⟩ : ByteArray), 190)) else (if (t160.size : Int) > 100000 then (some (0, ([] : List (S35)), (⟨#[]⟩ : ByteArray), 190)) else (if (wrap64 ((t159.length : Int) - 1)) ≤ (t159.length : Int) then (some (t158, (t159.take ((wrap64 ((t159.length : Int) - 1)) : Int).toNat), t160, 0)) else (none))))) else (none)) else (none)) else (some (0, ([] : List (S35)), (⟨#[]⟩ : ByteArray), 190)))))) else (some (0, ([] : List (S35)), (⟨#[]⟩ : ByteArray), t161))) = some (r1, r2, r3, r4) := H
    have A11 := Aside0.mk A110
    clear A110
    by_cases c12 : t161 = 0
    ·rw [if_pos c12] at H
     have c12b0 : (t161 == 0) = true := beq_iff_eq.mpr c12
     have c12b1 : (t161 != 0) = false := bne_eq_false_iff_eq.mpr c12
     clear c12
     replace H := Option.bind_eq_some_iff.mp H
     obtain ⟨t165, A130, H⟩ := H
     replace H : (if t165 = true then ((response_lengths.f kj3 t159).bind fun t166 => (if t166 > 0 then (some (0, ([] : List (S35)), (⟨#[]⟩ : ByteArray), 190)) else (if t160.toList = ([] : List UInt8) then (some (t158, t159, t160, 0)) else (some (0, ([] : List (S35)), (⟨#[]⟩ : ByteArray), 190))))) else ((response_lengths.f kj3 t159).bind fun t167 => (if t167 = 1 then (if 0 ≤ (wrap64 ((t159.length : Int) - 1)) then (if (wrap64 ((t159.length : Int) - 1)) < (t159.length : Int) then ((strconv_Itoa.f (t160.size : Int)).bind fun t169 => (if (!((((rd_T35 t159 (wrap64 ((t159.length : Int) - 1))).f0).toList) == ([99, 111, 110, 116, 101, 110, 116, 45, 108, 101, 110, 103, 116, 104] : List UInt8)) || (!((((rd_T35 t159 (wrap64 ((t159.length : Int) - 1))).f1).toList) == t169.toList))) = true then (some (0, ([] : List (S35)), (⟨#[]⟩ : ByteArray), 190)) else (if (t160.size : Int) > 100000 then (some (0, ([] : List (S35)), (⟨#[]⟩ : ByteArray), 190)) else (if (wrap64 ((t159.length : Int) - 1)) ≤ (t159.length : Int) then (some (t158, (t159.take ((wrap64 ((t159.length : Int) - 1)) : Int).toNat), t160, 0)) else (none))))) else (none)) else (none)) else (some (0, ([] : List (S35)), (⟨#[]⟩ : ByteArray), 190))))) = some (r1, r2, r3, r4) := H
     have A13 := Aside0.mk A130
     clear A130
     by_cases c14 : t165 = true
     ·subst c14
      replace H : ((response_lengths.f kj3 t159).bind fun t166 => (if t166 > 0 then (some (0, ([] : List (S35)), (⟨#[]⟩ : ByteArray), 190)) else (if t160.toList = ([] : List UInt8) then (some (t158, t159, t160, 0)) else (some (0, ([] : List (S35)), (⟨#[]⟩ : ByteArray), 190))))) = some (r1, r2, r3, r4) := by rw [if_pos rfl] at H; exact H
      replace H := Option.bind_eq_some_iff.mp H
      obtain ⟨t166, A150, H⟩ := H
      replace H : (if t166 > 0 then (some (0, ([] : List (S35)), (⟨#[]⟩ : ByteArray), 190)) else (if t160.toList = ([] : List UInt8) then (some (t158, t159, t160, 0)) else (some (0, ([] : List (S35)), (⟨#[]⟩ : ByteArray), 190)))) = some (r1, r2, r3, r4) := H
      have A15 := Aside0.mk A150
      clear A150
      by_cases c16 : t166 > 0
      ·rw [if_pos c16] at H
       have c16b0 : decide (0 < t166) = true := decide_eq_true c16
       clear c16
       simp only [Option.some.injEq, Prod.mk.injEq] at H
       obtain ⟨rfl, rfl, rfl, rfl⟩ := H
       go_wp2_with (first | ((with_reducible refine gate_callee (f := 20) rfl ?_); refine goesL_ (some 30) rfl rfl Tryd.func20 zb11 rfl #[.string t156] rfl zb1 ?_; (with_reducible refine (field_Parse.calls t156 t159 t160 t161 _ ?side1 A11.out).mono ?_); (case side1 => exact Glob.below hGA.out zb3); rintro e w17 ⟨v162, rfl, ho0, hb⟩; refine ⟨_, rfl, ?_⟩; have n0_ := Aside0.mk (Kd.R_lower ho0 (below_size zb3)); have n1_ := Aside0.mk (blk_below (g := gb154) (o := .cells #[.int .i64 0, .slice none 0 0, .string (⟨#[]⟩ : ByteArray)] 24 (0, 0)) zb4 hb); have n2_ := Aside0.mk (below_step zb3 hb); clear BK154; clear HB; have HO163 := n0_; have BK154 := n1_; have HB := n2_; clear n0_ n1_ n2_; (try clear hb); (try clear hb2); (try clear hk); (try clear hi); (try clear ho0); obtain ⟨Ao18, co18, eo18⟩ := Kd.R_slice HO163.out; subst eo18) | ((with_reducible refine gate_dst (N := 11) rfl ?_); (try (refine gate_guard (by rfl) ?_; dsimp only)); refine box_event ?hg (N := 11) ?hd (cs := #[.int .i64 0, .slice none 0 0, .string (⟨#[]⟩ : ByteArray)]) (t := 24) ?hr ?_; (case hd => rfl); (case hg => rfl); (case hr => first | (go_simp; done) | (go_simp; rfl)); intro gb164 hg w19 hbox hb; have n0_ := Aside0.mk (Kd.R_below zb13 hb); have n1_ := Aside0.mk (blk_below (g := gb154) (o := .cells #[.int .i64 0, .slice none 0 0, .string (⟨#[]⟩ : ByteArray)] 24 (0, 0)) zb4 hb); have n2_ := Aside0.mk (below_step zb3 hb); have n3_ := Aside0.mk (hbox); have n4_ := Aside0.mk ((by rw [hg]; exact (below_size zb3) : w.heap.size ≤ gb164)); have n5_ := Aside0.mk ((by rw [hg]; exact (below_size zb3) : w.heap.size ≤ gb164)); have n6_ := Aside0.mk ((by rw [hg]; exact Nat.ne_of_lt (blk_lt (g := gb154) (o := .cells #[.int .i64 0, .slice none 0 0, .string (⟨#[]⟩ : ByteArray)] 24 (0, 0)) zb4) : gb154 ≠ gb164)); have n7_ := Aside0.mk ((by rw [hg]; exact Nat.ne_of_gt (blk_lt (g := gb154) (o := .cells #[.int .i64 0, .slice none 0 0, .string (⟨#[]⟩ : ByteArray)] 24 (0, 0)) zb4) : gb164 ≠ gb154)); clear HO163; clear BK154; clear HB; have HO163 := n0_; have BK154 := n1_; have HB := n2_; have BK164 := n3_; have GW164 := n4_; have GE164 := n5_; have NB154_164 := n6_; have NB164_154 := n7_; clear n0_ n1_ n2_ n3_ n4_ n5_ n6_ n7_; clear hb hbox hg; have hnb20 := NB164_154.out; have hnc20 := NB154_164.out; have hcz21_0 : w19.cell? ⟨gb164, 0, none⟩ = some (.int .i64 0) := (blk_cell BK164.out 0).trans rfl; have hcz21_1 : w19.cell? ⟨gb164, 1, none⟩ = some (.slice none 0 0) := (blk_cell BK164.out 1).trans rfl; have hcz21_2 : w19.cell? ⟨gb164, 2, none⟩ = some (.string (⟨#[]⟩ : ByteArray)) := (blk_cell BK164.out 2).trans rfl; have hfz21_0 := blk_frozen BK164.out 0; have hfz21_1 := blk_frozen BK164.out 1; have hfz21_2 := blk_frozen BK164.out 2) | ((with_reducible refine gate_callee (f := 12) rfl ?_); refine goesL_ (some 43) rfl rfl Tryd.func12 zb11 rfl #[.int .i64 t158] rfl zb1 ?_; (with_reducible refine (response_bare.calls t158 true _ A13.out).mono ?_); rintro e w' ⟨rfl, ⟨nd, rfl⟩⟩; refine ⟨_, rfl, ?_⟩) | ((with_reducible refine gate_callee (f := 13) rfl ?_); refine goesL_ (some 45) rfl rfl Tryd.func13 zb11 rfl #[.slice Ao18 t159.length co18] rfl zb1 ?_; (with_reducible refine (response_lengths.calls kj3 _ _ t159 t166 _ ?side1 ?side2 A15.out).mono ?_); (case side1 => refine (Kd.R_reads' (e := 35) (base := w.heap.size) (ok := fun k_ => True) (n := t159.length) (c := co18) ?_).2.2; exact zb31); (case side2 => exact (Kd.R_reads' HO163.out).2.1); rintro e w22 ⟨rfl, hb⟩; refine ⟨_, rfl, ?_⟩; have n0_ := Aside0.mk (Kd.R_below zb31 hb); have n1_ := Aside0.mk (blk_below (g := gb154) (o := .cells #[.int .i64 0, .slice none 0 0, .string (⟨#[]⟩ : ByteArray)] 24 (0, 0)) zb20 hb); have n2_ := Aside0.mk (blk_below (g := gb164) (o := .cells #[.int .i64 t158, .slice Ao18 t159.length co18, .string t160] 24 (0, 0)) (by (with_reducible repeat (first | refine blk_drewN ?_ _ | refine blk_drew ?_ | refine blk_alloc ?_ _)); refine blk_put (cs := #[.int .i64 t158, .slice Ao18 t159.length co18, .string (⟨#[]⟩ : ByteArray)]) ?_ 2 _ rfl; (with_reducible repeat (first | refine blk_drewN ?_ _ | refine blk_drew ?_ | refine blk_alloc ?_ _)); refine blk_put (cs := #[.int .i64 t158, .slice none 0 0, .string (⟨#[]⟩ : ByteArray)]) ?_ 1 _ rfl; (with_reducible repeat (first | refine blk_drewN ?_ _ | refine blk_drew ?_ | refine blk_alloc ?_ _)); refine blk_put (cs := #[.int .i64 0, .slice none 0 0, .string (⟨#[]⟩ : ByteArray)]) ?_ 0 _ rfl; (with_reducible repeat (first | refine blk_drewN ?_ _ | refine blk_drew ?_ | refine blk_alloc ?_ _)); exact BK164.out) hb); have n3_ := Aside0.mk (below_step zb5 hb); clear HO163; clear BK154; clear BK164; clear HB; have HO163 := n0_; have BK154 := n1_; have BK164 := n2_; have HB := n3_; clear n0_ n1_ n2_ n3_; (try clear hb); (try clear hb2); (try clear hk); (try clear hi); have hcz23_0 : w22.cell? ⟨gb154, 0, none⟩ = some (.int .i64 0) := (blk_cell BK154.out 0).trans rfl; have hcz23_1 : w22.cell? ⟨gb154, 1, none⟩ = some (.slice none 0 0) := (blk_cell BK154.out 1).trans rfl; have hcz23_2 : w22.cell? ⟨gb154, 2, none⟩ = some (.string (⟨#[]⟩ : ByteArray)) := (blk_cell BK154.out 2).trans rfl; have hfz23_0 := blk_frozen BK154.out 0; have hfz23_1 := blk_frozen BK154.out 1; have hfz23_2 := blk_frozen BK154.out 2))
       refine bodyPost_ret (results_ct rfl _ _ gb154 24 #[.int .i64 0, .slice none 0 0, .string (⟨#[]⟩ : ByteArray)] (0, 0) _ rfl zb6 Tryd.underlying24 rfl zb11) rfl ?_
       exact ⟨_, by first | rfl | (simp [errW_none, errW_some, bne_nil_] <;> rfl) | (simp [*, errW_none, errW_some] <;> rfl), by first | exact Kd.R_nil _ _ _ _ _ | exact Kd.N_nil _ _ _ _ _ | exact Kd.V_nil _ _ _ _ _ | exact Kd.Q_nil _ _ _ _ _ | exact Kd.S_nil _ _ _ _ _, zb5⟩
      ·rw [if_neg c16] at H
       have c16b0 : decide (0 < t166) = false := decide_eq_false c16
       clear c16
       by_cases c24 : t160.toList = ([] : List UInt8)
       ·rw [if_pos c24] at H
        have c24b0 : (t160.toList == ([] : List UInt8)) = true := beq_iff_eq.mpr c24
        have c24b1 : (t160.toList != ([] : List UInt8)) = false := bne_eq_false_iff_eq.mpr c24
        clear c24
        simp only [Option.some.injEq, Prod.mk.injEq] at H
        obtain ⟨rfl, rfl, rfl, rfl⟩ := H
        go_wp2_with (first | ((with_reducible refine gate_callee (f := 20) rfl ?_); refine goesL_ (some 30) rfl rfl Tryd.func20 zb11 rfl #[.string t156] rfl zb1 ?_; (with_reducible refine (field_Parse.calls t156 t159 t160 t161 _ ?side1 A11.out).mono ?_); (case side1 => exact Glob.below hGA.out zb3); rintro e w25 ⟨v162, rfl, ho0, hb⟩; refine ⟨_, rfl, ?_⟩; have n0_ := Aside0.mk (Kd.R_lower ho0 (below_size zb3)); have n1_ := Aside0.mk (blk_below (g := gb154) (o := .cells #[.int .i64 0, .slice none 0 0, .string (⟨#[]⟩ : ByteArray)] 24 (0, 0)) zb4 hb); have n2_ := Aside0.mk (below_step zb3 hb); clear BK154; clear HB; have HO163 := n0_; have BK154 := n1_; have HB := n2_; clear n0_ n1_ n2_; (try clear hb); (try clear hb2); (try clear hk); (try clear hi); (try clear ho0); obtain ⟨Ao26, co26, eo26⟩ := Kd.R_slice HO163.out; subst eo26) | ((with_reducible refine gate_dst (N := 11) rfl ?_); (try (refine gate_guard (by rfl) ?_; dsimp only)); refine box_event ?hg (N := 11) ?hd (cs := #[.int .i64 0, .slice none 0 0, .string (⟨#[]⟩ : ByteArray)]) (t := 24) ?hr ?_; (case hd => rfl); (case hg => rfl); (case hr => first | (go_simp; done) | (go_simp; rfl)); intro gb164 hg w27 hbox hb; have n0_ := Aside0.mk (Kd.R_below zb13 hb); have n1_ := Aside0.mk (blk_below (g := gb154) (o := .cells #[.int .i64 0, .slice none 0 0, .string (⟨#[]⟩ : ByteArray)] 24 (0, 0)) zb4 hb); have n2_ := Aside0.mk (below_step zb3 hb); have n3_ := Aside0.mk (hbox); have n4_ := Aside0.mk ((by rw [hg]; exact (below_size zb3) : w.heap.size ≤ gb164)); have n5_ := Aside0.mk ((by rw [hg]; exact (below_size zb3) : w.heap.size ≤ gb164)); have n6_ := Aside0.mk ((by rw [hg]; exact Nat.ne_of_lt (blk_lt (g := gb154) (o := .cells #[.int .i64 0, .slice none 0 0, .string (⟨#[]⟩ : ByteArray)] 24 (0, 0)) zb4) : gb154 ≠ gb164)); have n7_ := Aside0.mk ((by rw [hg]; exact Nat.ne_of_gt (blk_lt (g := gb154) (o := .cells #[.int .i64 0, .slice none 0 0, .string (⟨#[]⟩ : ByteArray)] 24 (0, 0)) zb4) : gb164 ≠ gb154)); clear HO163; clear BK154; clear HB; have HO163 := n0_; have BK154 := n1_; have HB := n2_; have BK164 := n3_; have GW164 := n4_; have GE164 := n5_; have NB154_164 := n6_; have NB164_154 := n7_; clear n0_ n1_ n2_ n3_ n4_ n5_ n6_ n7_; clear hb hbox hg; have hnb28 := NB164_154.out; have hnc28 := NB154_164.out; have hcz29_0 : w27.cell? ⟨gb164, 0, none⟩ = some (.int .i64 0) := (blk_cell BK164.out 0).trans rfl; have hcz29_1 : w27.cell? ⟨gb164, 1, none⟩ = some (.slice none 0 0) := (blk_cell BK164.out 1).trans rfl; have hcz29_2 : w27.cell? ⟨gb164, 2, none⟩ = some (.string (⟨#[]⟩ : ByteArray)) := (blk_cell BK164.out 2).trans rfl; have hfz29_0 := blk_frozen BK164.out 0; have hfz29_1 := blk_frozen BK164.out 1; have hfz29_2 := blk_frozen BK164.out 2) | ((with_reducible refine gate_callee (f := 12) rfl ?_); refine goesL_ (some 43) rfl rfl Tryd.func12 zb11 rfl #[.int .i64 t158] rfl zb1 ?_; (with_reducible refine (response_bare.calls t158 true _ A13.out).mono ?_); rintro e w' ⟨rfl, ⟨nd, rfl⟩⟩; refine ⟨_, rfl, ?_⟩) | ((with_reducible refine gate_callee (f := 13) rfl ?_); refine goesL_ (some 45) rfl rfl Tryd.func13 zb11 rfl #[.slice Ao26 t159.length co26] rfl zb1 ?_; (with_reducible refine (response_lengths.calls kj3 _ _ t159 t166 _ ?side1 ?side2 A15.out).mono ?_); (case side1 => refine (Kd.R_reads' (e := 35) (base := w.heap.size) (ok := fun k_ => True) (n := t159.length) (c := co26) ?_).2.2; exact zb30); (case side2 => exact (Kd.R_reads' HO163.out).2.1); rintro e w30 ⟨rfl, hb⟩; refine ⟨_, rfl, ?_⟩; have n0_ := Aside0.mk (Kd.R_below zb30 hb); have n1_ := Aside0.mk (blk_below (g := gb154) (o := .cells #[.int .i64 0, .slice none 0 0, .string (⟨#[]⟩ : ByteArray)] 24 (0, 0)) zb20 hb); have n2_ := Aside0.mk (blk_below (g := gb164) (o := .cells #[.int .i64 t158, .slice Ao26 t159.length co26, .string t160] 24 (0, 0)) (by (with_reducible repeat (first | refine blk_drewN ?_ _ | refine blk_drew ?_ | refine blk_alloc ?_ _)); refine blk_put (cs := #[.int .i64 t158, .slice Ao26 t159.length co26, .string (⟨#[]⟩ : ByteArray)]) ?_ 2 _ rfl; (with_reducible repeat (first | refine blk_drewN ?_ _ | refine blk_drew ?_ | refine blk_alloc ?_ _)); refine blk_put (cs := #[.int .i64 t158, .slice none 0 0, .string (⟨#[]⟩ : ByteArray)]) ?_ 1 _ rfl; (with_reducible repeat (first | refine blk_drewN ?_ _ | refine blk_drew ?_ | refine blk_alloc ?_ _)); refine blk_put (cs := #[.int .i64 0, .slice none 0 0, .string (⟨#[]⟩ : ByteArray)]) ?_ 0 _ rfl; (with_reducible repeat (first | refine blk_drewN ?_ _ | refine blk_drew ?_ | refine blk_alloc ?_ _)); exact BK164.out) hb); have n3_ := Aside0.mk (below_step zb5 hb); clear HO163; clear BK154; clear BK164; clear HB; have HO163 := n0_; have BK154 := n1_; have BK164 := n2_; have HB := n3_; clear n0_ n1_ n2_ n3_; (try clear hb); (try clear hb2); (try clear hk); (try clear hi); have hcz31_0 : w30.cell? ⟨gb164, 0, none⟩ = some (.int .i64 t158) := (blk_cell BK164.out 0).trans rfl; have hcz31_1 : w30.cell? ⟨gb164, 1, none⟩ = some (.slice Ao26 t159.length co26) := (blk_cell BK164.out 1).trans rfl; have hcz31_2 : w30.cell? ⟨gb164, 2, none⟩ = some (.string t160) := (blk_cell BK164.out 2).trans rfl; have hfz31_0 := blk_frozen BK164.out 0; have hfz31_1 := blk_frozen BK164.out 1; have hfz31_2 := blk_frozen BK164.out 2; have hcz32_0 : w30.cell? ⟨gb154, 0, none⟩ = some (.int .i64 0) := (blk_cell BK154.out 0).trans rfl; have hcz32_1 : w30.cell? ⟨gb154, 1, none⟩ = some (.slice none 0 0) := (blk_cell BK154.out 1).trans rfl; have hcz32_2 : w30.cell? ⟨gb154, 2, none⟩ = some (.string (⟨#[]⟩ : ByteArray)) := (blk_cell BK154.out 2).trans rfl; have hfz32_0 := blk_frozen BK154.out 0; have hfz32_1 := blk_frozen BK154.out 1; have hfz32_2 := blk_frozen BK154.out 2))
        refine bodyPost_ret (results_ct rfl _ _ gb154 24 #[.int .i64 t158, .slice Ao26 t159.length co26, .string t160] (0, 0) _ rfl (by (with_reducible repeat (first | refine blk_drewN ?_ _ | refine blk_drew ?_ | refine blk_alloc ?_ _)); refine blk_put (cs := #[.int .i64 t158, .slice Ao26 t159.length co26, .string (⟨#[]⟩ : ByteArray)]) ?_ 2 _ rfl; (with_reducible repeat (first | refine blk_drewN ?_ _ | refine blk_drew ?_ | refine blk_alloc ?_ _)); refine blk_put (cs := #[.int .i64 t158, .slice none 0 0, .string (⟨#[]⟩ : ByteArray)]) ?_ 1 _ rfl; (with_reducible repeat (first | refine blk_drewN ?_ _ | refine blk_drew ?_ | refine blk_alloc ?_ _)); refine blk_put (cs := #[.int .i64 0, .slice none 0 0, .string (⟨#[]⟩ : ByteArray)]) ?_ 0 _ rfl; (with_reducible repeat (first | refine blk_drewN ?_ _ | refine blk_drew ?_ | refine blk_alloc ?_ _)); exact BK154.out) Tryd.underlying24 rfl zb11) rfl ?_
        exact ⟨_, by first | rfl | (simp [errW_none, errW_some, bne_nil_] <;> rfl) | (simp [*, errW_none, errW_some] <;> rfl), by (with_reducible repeat (first | apply Kd.R_alloc | apply Kd.R_drewN | apply Kd.R_drew)); exact Kd.R_mono (Kd.R_far (p := ⟨gb154, 2, none⟩) (Kd.R_far (p := ⟨gb154, 1, none⟩) (Kd.R_far (p := ⟨gb154, 0, none⟩) (Kd.R_types HO163.out BK154.out zb32) (fun _ hk => hk.2) (.int .i64 t158)) (fun _ hk => hk.2) (.slice Ao26 t159.length co26)) (fun _ hk => hk.2) (.string t160)) (fun _ hk => trivial), zb5⟩
       ·rw [if_neg c24] at H
        have c24b0 : (t160.toList == ([] : List UInt8)) = false := beq_eq_false_iff_ne.mpr c24
        have c24b1 : (t160.toList != ([] : List UInt8)) = true := bne_iff_ne.mpr c24
        simp only [Option.some.injEq, Prod.mk.injEq] at H
        obtain ⟨rfl, rfl, rfl, rfl⟩ := H
        go_wp2_with (first | ((with_reducible refine gate_callee (f := 20) rfl ?_); refine goesL_ (some 30) rfl rfl Tryd.func20 zb11 rfl #[.string t156] rfl zb1 ?_; (with_reducible refine (field_Parse.calls t156 t159 t160 t161 _ ?side1 A11.out).mono ?_); (case side1 => exact Glob.below hGA.out zb3); rintro e w33 ⟨v162, rfl, ho0, hb⟩; refine ⟨_, rfl, ?_⟩; have n0_ := Aside0.mk (Kd.R_lower ho0 (below_size zb3)); have n1_ := Aside0.mk (blk_below (g := gb154) (o := .cells #[.int .i64 0, .slice none 0 0, .string (⟨#[]⟩ : ByteArray)] 24 (0, 0)) zb4 hb); have n2_ := Aside0.mk (below_step zb3 hb); clear BK154; clear HB; have HO163 := n0_; have BK154 := n1_; have HB := n2_; clear n0_ n1_ n2_; (try clear hb); (try clear hb2); (try clear hk); (try clear hi); (try clear ho0); obtain ⟨Ao34, co34, eo34⟩ := Kd.R_slice HO163.out; subst eo34) | ((with_reducible refine gate_dst (N := 11) rfl ?_); (try (refine gate_guard (by rfl) ?_; dsimp only)); refine box_event ?hg (N := 11) ?hd (cs := #[.int .i64 0, .slice none 0 0, .string (⟨#[]⟩ : ByteArray)]) (t := 24) ?hr ?_; (case hd => rfl); (case hg => rfl); (case hr => first | (go_simp; done) | (go_simp; rfl)); intro gb164 hg w35 hbox hb; have n0_ := Aside0.mk (Kd.R_below zb13 hb); have n1_ := Aside0.mk (blk_below (g := gb154) (o := .cells #[.int .i64 0, .slice none 0 0, .string (⟨#[]⟩ : ByteArray)] 24 (0, 0)) zb4 hb); have n2_ := Aside0.mk (below_step zb3 hb); have n3_ := Aside0.mk (hbox); have n4_ := Aside0.mk ((by rw [hg]; exact (below_size zb3) : w.heap.size ≤ gb164)); have n5_ := Aside0.mk ((by rw [hg]; exact (below_size zb3) : w.heap.size ≤ gb164)); have n6_ := Aside0.mk ((by rw [hg]; exact Nat.ne_of_lt (blk_lt (g := gb154) (o := .cells #[.int .i64 0, .slice none 0 0, .string (⟨#[]⟩ : ByteArray)] 24 (0, 0)) zb4) : gb154 ≠ gb164)); have n7_ := Aside0.mk ((by rw [hg]; exact Nat.ne_of_gt (blk_lt (g := gb154) (o := .cells #[.int .i64 0, .slice none 0 0, .string (⟨#[]⟩ : ByteArray)] 24 (0, 0)) zb4) : gb164 ≠ gb154)); clear HO163; clear BK154; clear HB; have HO163 := n0_; have BK154 := n1_; have HB := n2_; have BK164 := n3_; have GW164 := n4_; have GE164 := n5_; have NB154_164 := n6_; have NB164_154 := n7_; clear n0_ n1_ n2_ n3_ n4_ n5_ n6_ n7_; clear hb hbox hg; have hnb36 := NB164_154.out; have hnc36 := NB154_164.out; have hcz37_0 : w35.cell? ⟨gb164, 0, none⟩ = some (.int .i64 0) := (blk_cell BK164.out 0).trans rfl; have hcz37_1 : w35.cell? ⟨gb164, 1, none⟩ = some (.slice none 0 0) := (blk_cell BK164.out 1).trans rfl; have hcz37_2 : w35.cell? ⟨gb164, 2, none⟩ = some (.string (⟨#[]⟩ : ByteArray)) := (blk_cell BK164.out 2).trans rfl; have hfz37_0 := blk_frozen BK164.out 0; have hfz37_1 := blk_frozen BK164.out 1; have hfz37_2 := blk_frozen BK164.out 2) | ((with_reducible refine gate_callee (f := 12) rfl ?_); refine goesL_ (some 43) rfl rfl Tryd.func12 zb11 rfl #[.int .i64 t158] rfl zb1 ?_; (with_reducible refine (response_bare.calls t158 true _ A13.out).mono ?_); rintro e w' ⟨rfl, ⟨nd, rfl⟩⟩; refine ⟨_, rfl, ?_⟩) | ((with_reducible refine gate_callee (f := 13) rfl ?_); refine goesL_ (some 45) rfl rfl Tryd.func13 zb11 rfl #[.slice Ao34 t159.length co34] rfl zb1 ?_; (with_reducible refine (response_lengths.calls kj3 _ _ t159 t166 _ ?side1 ?side2 A15.out).mono ?_); (case side1 => refine (Kd.R_reads' (e := 35) (base := w.heap.size) (ok := fun k_ => True) (n := t159.length) (c := co34) ?_).2.2; exact zb29); (case side2 => exact (Kd.R_reads' HO163.out).2.1); rintro e w38 ⟨rfl, hb⟩; refine ⟨_, rfl, ?_⟩; have n0_ := Aside0.mk (Kd.R_below zb29 hb); have n1_ := Aside0.mk (blk_below (g := gb154) (o := .cells #[.int .i64 0, .slice none 0 0, .string (⟨#[]⟩ : ByteArray)] 24 (0, 0)) zb20 hb); have n2_ := Aside0.mk (blk_below (g := gb164) (o := .cells #[.int .i64 t158, .slice Ao34 t159.length co34, .string t160] 24 (0, 0)) (by (with_reducible repeat (first | refine blk_drewN ?_ _ | refine blk_drew ?_ | refine blk_alloc ?_ _)); refine blk_put (cs := #[.int .i64 t158, .slice Ao34 t159.length co34, .string (⟨#[]⟩ : ByteArray)]) ?_ 2 _ rfl; (with_reducible repeat (first | refine blk_drewN ?_ _ | refine blk_drew ?_ | refine blk_alloc ?_ _)); refine blk_put (cs := #[.int .i64 t158, .slice none 0 0, .string (⟨#[]⟩ : ByteArray)]) ?_ 1 _ rfl; (with_reducible repeat (first | refine blk_drewN ?_ _ | refine blk_drew ?_ | refine blk_alloc ?_ _)); refine blk_put (cs := #[.int .i64 0, .slice none 0 0, .string (⟨#[]⟩ : ByteArray)]) ?_ 0 _ rfl; (with_reducible repeat (first | refine blk_drewN ?_ _ | refine blk_drew ?_ | refine blk_alloc ?_ _)); exact BK164.out) hb); have n3_ := Aside0.mk (below_step zb5 hb); clear HO163; clear BK154; clear BK164; clear HB; have HO163 := n0_; have BK154 := n1_; have BK164 := n2_; have HB := n3_; clear n0_ n1_ n2_ n3_; (try clear hb); (try clear hb2); (try clear hk); (try clear hi); have hcz39_0 : w38.cell? ⟨gb154, 0, none⟩ = some (.int .i64 0) := (blk_cell BK154.out 0).trans rfl; have hcz39_1 : w38.cell? ⟨gb154, 1, none⟩ = some (.slice none 0 0) := (blk_cell BK154.out 1).trans rfl; have hcz39_2 : w38.cell? ⟨gb154, 2, none⟩ = some (.string (⟨#[]⟩ : ByteArray)) := (blk_cell BK154.out 2).trans rfl; have hfz39_0 := blk_frozen BK154.out 0; have hfz39_1 := blk_frozen BK154.out 1; have hfz39_2 := blk_frozen BK154.out 2))
        refine bodyPost_ret (results_ct rfl _ _ gb154 24 #[.int .i64 0, .slice none 0 0, .string (⟨#[]⟩ : ByteArray)] (0, 0) _ rfl zb6 Tryd.underlying24 rfl zb11) rfl ?_
        exact ⟨_, by first | rfl | (simp [errW_none, errW_some, bne_nil_] <;> rfl) | (simp [*, errW_none, errW_some] <;> rfl), by first | exact Kd.R_nil _ _ _ _ _ | exact Kd.N_nil _ _ _ _ _ | exact Kd.V_nil _ _ _ _ _ | exact Kd.Q_nil _ _ _ _ _ | exact Kd.S_nil _ _ _ _ _, zb5⟩
     ·replace c14 := Bool.eq_false_iff.mpr c14
      subst c14
      replace H : ((response_lengths.f kj3 t159).bind fun t167 => (if t167 = 1 then (if 0 ≤ (wrap64 ((t159.length : Int) - 1)) then (if (wrap64 ((t159.length : Int) - 1)) < (t159.length : Int) then ((strconv_Itoa.f (t160.size : Int)).bind fun t169 => (if (!((((rd_T35 t159 (wrap64 ((t159.length : Int) - 1))).f0).toList) == ([99, 111, 110, 116, 101, 110, 116, 45, 108, 101, 110, 103, 116, 104] : List UInt8)) || (!((((rd_T35 t159 (wrap64 ((t159.length : Int) - 1))).f1).toList) == t169.toList))) = true then (some (0, ([] : List (S35)), (⟨#[]⟩ : ByteArray), 190)) else (if (t160.size : Int) > 100000 then (some (0, ([] : List (S35)), (⟨#[]⟩ : ByteArray), 190)) else (if (wrap64 ((t159.length : Int) - 1)) ≤ (t159.length : Int) then (some (t158, (t159.take ((wrap64 ((t159.length : Int) - 1)) : Int).toNat), t160, 0)) else (none))))) else (none)) else (none)) else (some (0, ([] : List (S35)), (⟨#[]⟩ : ByteArray), 190)))) = some (r1, r2, r3, r4) := by rw [if_neg (show ¬ (false = true) by decide)] at H; exact H
      replace H := Option.bind_eq_some_iff.mp H
      obtain ⟨t167, A400, H⟩ := H
      replace H : (if t167 = 1 then (if 0 ≤ (wrap64 ((t159.length : Int) - 1)) then (if (wrap64 ((t159.length : Int) - 1)) < (t159.length : Int) then ((strconv_Itoa.f (t160.size : Int)).bind fun t169 => (if (!((((rd_T35 t159 (wrap64 ((t159.length : Int) - 1))).f0).toList) == ([99, 111, 110, 116, 101, 110, 116, 45, 108, 101, 110, 103, 116, 104] : List UInt8)) || (!((((rd_T35 t159 (wrap64 ((t159.length : Int) - 1))).f1).toList) == t169.toList))) = true then (some (0, ([] : List (S35)), (⟨#[]⟩ : ByteArray), 190)) else (if (t160.size : Int) > 100000 then (some (0, ([] : List (S35)), (⟨#[]⟩ : ByteArray), 190)) else (if (wrap64 ((t159.length : Int) - 1)) ≤ (t159.length : Int) then (some (t158, (t159.take ((wrap64 ((t159.length : Int) - 1)) : Int).toNat), t160, 0)) else (none))))) else (none)) else (none)) else (some (0, ([] : List (S35)), (⟨#[]⟩ : ByteArray), 190))) = some (r1, r2, r3, r4) := H
      have A40 := Aside0.mk A400
      clear A400
      by_cases c41 : t167 = 1
      ·rw [if_pos c41] at H
       have c41b0 : (t167 == 1) = true := beq_iff_eq.mpr c41
       have c41b1 : (t167 != 1) = false := bne_eq_false_iff_eq.mpr c41
       clear c41
       obtain ⟨ji42, hji42⟩ : ∃ j_ : Int, (wrap64 ((t159.length : Int) - 1)) = j_ := ⟨_, rfl⟩
       replace H : (if 0 ≤ (ji42) then (if (ji42) < (t159.length : Int) then ((strconv_Itoa.f (t160.size : Int)).bind fun t169 => (if (!((((rd_T35 t159 (ji42)).f0).toList) == ([99, 111, 110, 116, 101, 110, 116, 45, 108, 101, 110, 103, 116, 104] : List UInt8)) || (!((((rd_T35 t159 (ji42)).f1).toList) == t169.toList))) = true then (some (0, ([] : List (S35)), (⟨#[]⟩ : ByteArray), 190)) else (if (t160.size : Int) > 100000 then (some (0, ([] : List (S35)), (⟨#[]⟩ : ByteArray), 190)) else (if (ji42) ≤ (t159.length : Int) then (some (t158, (t159.take ((ji42) : Int).toNat), t160, 0)) else (none))))) else (none)) else (none)) = some (r1, r2, r3, r4) := by first | (rw [hji42] at H; exact H) | (simp only [hji42] at H ⊢; exact H)
       (try rw [hji42] at A11)
       (try rw [hji42] at A13)
       (try rw [hji42] at A40)
       have hji42w : (IntKind.i64.wrap ((t159.length : Int) - 1)) = ji42 := (i64_w _).trans hji42
       by_cases c43 : 0 ≤ (ji42)
       ·rw [if_pos c43] at H
        have c43b0 : decide (0 ≤ (ji42)) = true := decide_eq_true c43
        clear c43
        by_cases c44 : (ji42) < (t159.length : Int)
        ·rw [if_pos c44] at H
         have c44b0 : decide ((ji42) < (t159.length : Int)) = true := decide_eq_true c44
         clear c44
         replace H := Option.bind_eq_some_iff.mp H
         obtain ⟨t169, A450, H⟩ := H
         replace H : (if (!((((rd_T35 t159 (ji42)).f0).toList) == ([99, 111, 110, 116, 101, 110, 116, 45, 108, 101, 110, 103, 116, 104] : List UInt8)) || (!((((rd_T35 t159 (ji42)).f1).toList) == t169.toList))) = true then (some (0, ([] : List (S35)), (⟨#[]⟩ : ByteArray), 190)) else (if (t160.size : Int) > 100000 then (some (0, ([] : List (S35)), (⟨#[]⟩ : ByteArray), 190)) else (if (ji42) ≤ (t159.length : Int) then (some (t158, (t159.take ((ji42) : Int).toNat), t160, 0)) else (none)))) = some (r1, r2, r3, r4) := H
         have A45 := Aside0.mk A450
         clear A450
         by_cases c46 : (!((((rd_T35 t159 (ji42)).f0).toList) == ([99, 111, 110, 116, 101, 110, 116, 45, 108, 101, 110, 103, 116, 104] : List UInt8)) || (!((((rd_T35 t159 (ji42)).f1).toList) == t169.toList))) = true
         ·rw [if_pos c46] at H
          have c46b0 : (!((((rd_T35 t159 (ji42)).f0).toList) == ([99, 111, 110, 116, 101, 110, 116, 45, 108, 101, 110, 103, 116, 104] : List UInt8)) || (!((((rd_T35 t159 (ji42)).f1).toList) == t169.toList))) = true := c46
          clear c46
          simp only [Option.some.injEq, Prod.mk.injEq] at H
          obtain ⟨rfl, rfl, rfl, rfl⟩ := H
          try go_wp2_with (first | ((with_reducible refine gate_callee (f := 20) rfl ?_); refine goesL_ (some 30) rfl rfl Tryd.func20 zb11 rfl #[.string t156] rfl zb1 ?_; (with_reducible refine (field_Parse.calls t156 t159 t160 t161 _ ?side1 A11.out).mono ?_); (case side1 => exact Glob.below hGA.out zb3); rintro e w47 ⟨v162, rfl, ho0, hb⟩; refine ⟨_, rfl, ?_⟩; have n0_ := Aside0.mk (Kd.R_lower ho0 (below_size zb3)); have n1_ := Aside0.mk (blk_below (g := gb154) (o := .cells #[.int .i64 0, .slice none 0 0, .string (⟨#[]⟩ : ByteArray)] 24 (0, 0)) zb4 hb); have n2_ := Aside0.mk (below_step zb3 hb); clear BK154; clear HB; have HO163 := n0_; have BK154 := n1_; have HB := n2_; clear n0_ n1_ n2_; (try clear hb); (try clear hb2); (try clear hk); (try clear hi); (try clear ho0); obtain ⟨Ao48, co48, eo48⟩ := Kd.R_slice HO163.out; subst eo48) | ((with_reducible refine gate_dst (N := 11) rfl ?_); (try (refine gate_guard (by rfl) ?_; dsimp only)); refine box_event ?hg (N := 11) ?hd (cs := #[.int .i64 0, .slice none 0 0, .string (⟨#[]⟩ : ByteArray)]) (t := 24) ?hr ?_; (case hd => rfl); (case hg => rfl); (case hr => first | (go_simp; done) | (go_simp; rfl)); intro gb164 hg w49 hbox hb; have n0_ := Aside0.mk (Kd.R_below zb13 hb); have n1_ := Aside0.mk (blk_below (g := gb154) (o := .cells #[.int .i64 0, .slice none 0 0, .string (⟨#[]⟩ : ByteArray)] 24 (0, 0)) zb4 hb); have n2_ := Aside0.mk (below_step zb3 hb); have n3_ := Aside0.mk (hbox); have n4_ := Aside0.mk ((by rw [hg]; exact (below_size zb3) : w.heap.size ≤ gb164)); have n5_ := Aside0.mk ((by rw [hg]; exact (below_size zb3) : w.heap.size ≤ gb164)); have n6_ := Aside0.mk ((by rw [hg]; exact Nat.ne_of_lt (blk_lt (g := gb154) (o := .cells #[.int .i64 0, .slice none 0 0, .string (⟨#[]⟩ : ByteArray)] 24 (0, 0)) zb4) : gb154 ≠ gb164)); have n7_ := Aside0.mk ((by rw [hg]; exact Nat.ne_of_gt (blk_lt (g := gb154) (o := .cells #[.int .i64 0, .slice none 0 0, .string (⟨#[]⟩ : ByteArray)] 24 (0, 0)) zb4) : gb164 ≠ gb154)); clear HO163; clear BK154; clear HB; have HO163 := n0_; have BK154 := n1_; have HB := n2_; have BK164 := n3_; have GW164 := n4_; have GE164 := n5_; have NB154_164 := n6_; have NB164_154 := n7_; clear n0_ n1_ n2_ n3_ n4_ n5_ n6_ n7_; clear hb hbox hg; have hnb50 := NB164_154.out; have hnc50 := NB154_164.out; have hcz51_0 : w49.cell? ⟨gb164, 0, none⟩ = some (.int .i64 0) := (blk_cell BK164.out 0).trans rfl; have hcz51_1 : w49.cell? ⟨gb164, 1, none⟩ = some (.slice none 0 0) := (blk_cell BK164.out 1).trans rfl; have hcz51_2 : w49.cell? ⟨gb164, 2, none⟩ = some (.string (⟨#[]⟩ : ByteArray)) := (blk_cell BK164.out 2).trans rfl; have hfz51_0 := blk_frozen BK164.out 0; have hfz51_1 := blk_frozen BK164.out 1; have hfz51_2 := blk_frozen BK164.out 2) | ((with_reducible refine gate_callee (f := 12) rfl ?_); refine goesL_ (some 43) rfl rfl Tryd.func12 zb11 rfl #[.int .i64 t158] rfl zb1 ?_; (with_reducible refine (response_bare.calls t158 false _ A13.out).mono ?_); rintro e w' ⟨rfl, ⟨nd, rfl⟩⟩; refine ⟨_, rfl, ?_⟩))
          have n0_ : Aside0 (Kd.R k35 35 (((w49.setCell ⟨gb164, 0, none⟩ (.int .i64 t158)).setCell ⟨gb164, 1, none⟩ (.slice Ao48 t159.length co48)).setCell ⟨gb164, 2, none⟩ (.string t160)) w.heap.size (fun _ => True) (.slice Ao48 t159.length co48) t159) := ⟨by (with_reducible repeat (first | apply Kd.R_alloc | apply Kd.R_drewN | apply Kd.R_drew)); exact Kd.R_mono (Kd.R_far (p := ⟨gb164, 2, none⟩) (Kd.R_far (p := ⟨gb164, 1, none⟩) (Kd.R_far (p := ⟨gb164, 0, none⟩) (Kd.R_types HO163.out BK164.out zb32) (fun _ hk => hk.2) (.int .i64 t158)) (fun _ hk => hk.2) (.slice Ao48 t159.length co48)) (fun _ hk => hk.2) (.string t160)) (fun _ hk => trivial)⟩
          have n1_ : Aside0 ((((w49.setCell ⟨gb164, 0, none⟩ (.int .i64 t158)).setCell ⟨gb164, 1, none⟩ (.slice Ao48 t159.length co48)).setCell ⟨gb164, 2, none⟩ (.string t160)).heap[gb154]? = some (.cells #[.int .i64 0, .slice none 0 0, .string (⟨#[]⟩ : ByteArray)] 24 (0, 0))) := ⟨by (with_reducible repeat (first | refine blk_drewN ?_ _ | refine blk_drew ?_ | refine blk_alloc ?_ _)); refine blk_far ?_ NB154_164.out _; (with_reducible repeat (first | refine blk_drewN ?_ _ | refine blk_drew ?_ | refine blk_alloc ?_ _)); refine blk_far ?_ NB154_164.out _; (with_reducible repeat (first | refine blk_drewN ?_ _ | refine blk_drew ?_ | refine blk_alloc ?_ _)); refine blk_far ?_ NB154_164.out _; (with_reducible repeat (first | refine blk_drewN ?_ _ | refine blk_drew ?_ | refine blk_alloc ?_ _)); exact BK154.out⟩
          have n2_ : Aside0 ((((w49.setCell ⟨gb164, 0, none⟩ (.int .i64 t158)).setCell ⟨gb164, 1, none⟩ (.slice Ao48 t159.length co48)).setCell ⟨gb164, 2, none⟩ (.string t160)).heap[gb164]? = some (.cells #[.int .i64 t158, .slice Ao48 t159.length co48, .string t160] 24 (0, 0))) := ⟨by (with_reducible repeat (first | refine blk_drewN ?_ _ | refine blk_drew ?_ | refine blk_alloc ?_ _)); refine blk_put (cs := #[.int .i64 t158, .slice Ao48 t159.length co48, .string (⟨#[]⟩ : ByteArray)]) ?_ 2 _ rfl; (with_reducible repeat (first | refine blk_drewN ?_ _ | refine blk_drew ?_ | refine blk_alloc ?_ _)); refine blk_put (cs := #[.int .i64 t158, .slice none 0 0, .string (⟨#[]⟩ : ByteArray)]) ?_ 1 _ rfl; (with_reducible repeat (first | refine blk_drewN ?_ _ | refine blk_drew ?_ | refine blk_alloc ?_ _)); refine blk_put (cs := #[.int .i64 0, .slice none 0 0, .string (⟨#[]⟩ : ByteArray)]) ?_ 0 _ rfl; (with_reducible repeat (first | refine blk_drewN ?_ _ | refine blk_drew ?_ | refine blk_alloc ?_ _)); exact BK164.out⟩
          have n3_ : Aside0 (Below w.heap.size w (((w49.setCell ⟨gb164, 0, none⟩ (.int .i64 t158)).setCell ⟨gb164, 1, none⟩ (.slice Ao48 t159.length co48)).setCell ⟨gb164, 2, none⟩ (.string t160))) := ⟨by repeat (first | (with_reducible first | exact HB.out | apply below_alloc | apply pw_below_drewN | apply below_drew1 | refine below_set ?_ GE154.out | refine below_set ?_ GE164.out) | exact HB.out)⟩
          (try clear HO163)
          (try clear BK154)
          (try clear BK164)
          (try clear HB)
          generalize (((w49.setCell ⟨gb164, 0, none⟩ (.int .i64 t158)).setCell ⟨gb164, 1, none⟩ (.slice Ao48 t159.length co48)).setCell ⟨gb164, 2, none⟩ (.string t160)) = w52 at n0_ n1_ n2_ n3_ ⊢
          have HO163 := n0_
          have BK154 := n1_
          have BK164 := n2_
          have HB := n3_
          clear n0_ n1_ n2_ n3_
          (try (rw [drewN_self w52]; generalize hq_ : World.drewN w52 _ = w52; have n0_ : Aside0 (Kd.R k35 35 w52 w.heap.size (fun _ => True) (.slice Ao48 t159.length co48) t159) := ⟨by rw [← hq_]; exact zb13⟩; have n1_ : Aside0 (w52.heap[gb154]? = some (.cells #[.int .i64 0, .slice none 0 0, .string (⟨#[]⟩ : ByteArray)] 24 (0, 0))) := ⟨by rw [← hq_]; exact zb4⟩; have n2_ : Aside0 (w52.heap[gb164]? = some (.cells #[.int .i64 t158, .slice Ao48 t159.length co48, .string t160] 24 (0, 0))) := ⟨by rw [← hq_]; exact zb18⟩; have n3_ : Aside0 (Below w.heap.size w w52) := ⟨by rw [← hq_]; exact zb5⟩; clear HO163 BK154 BK164 HB hq_; have HO163 := n0_; have BK154 := n1_; have BK164 := n2_; have HB := n3_; clear n0_ n1_ n2_ n3_))
          have n0_ := Aside0.mk (Kd.R_drew HO163.out)
          have n1_ := Aside0.mk (blk_drew BK154.out)
          have n2_ := Aside0.mk (blk_drew BK164.out)
          have n3_ := Aside0.mk (below_drew1 HB.out)
          clear HO163
          clear BK154
          clear BK164
          clear HB
          have HO163 := n0_
          have BK154 := n1_
          have BK164 := n2_
          have HB := n3_
          clear n0_ n1_ n2_ n3_
          have p168 : 0 ≤ ((ji42) : Int) := of_decide_eq_true zb12
          have q168 : (ji42) < (t159.length : Int) := of_decide_eq_true zb12
          obtain ⟨ad168, e168, hx168_0, hx168_1⟩ := at_T35 (Kd.R_reads' HO163.out).2.2 (ji42) p168 q168
          cases e168
          replace p168 := eq_true p168
          replace q168 := eq_true q168
          refine start_ (n := 19) (S := fun w' => w'.cell? (ad168.add (((ji42)).toNat * 2)) = some (.string ((rd_T35 t159 (ji42)).f0)) ∧ w'.cell? ⟨(ad168.add (((ji42)).toNat * 2)).block, (ad168.add (((ji42)).toNat * 2)).off + 1, none⟩ = some (.string ((rd_T35 t159 (ji42)).f1))) (ds := []) #[false, false, false, false, false, false, false, false, false, false, false, false, false, false, false, false, false, false, false] zb11 rfl rfl ⟨hx168_0, hx168_1⟩ (fun hHeld => ?_); refine with_tabW response_Parse.tab14 response_Parse.bits14 (fun HT_ HW_ => ?_)
          skip
          refine pure_ (i := 0) (N := some 56) (v := ?_) (a' := ?_) #[true, false, false, false, false, false, false, false, false, false, false, false, false, false, false, false, false, false, false] rfl rfl (any_of HT_.out zb11) (fun _ _ _ h => h) (Or.inl ⟨by rfl, ?_⟩) ?_ ?_
          rotate_left
          ·intro w'
           go_simp
           first | with_reducible rfl | (rw [if_neg zb2])
          rotate_left
          ·simp only [Act.put, List.setIfInBounds_toArray, List.set_cons_zero, List.set_cons_succ, i64_w, i32_w]
           rfl
          refine one_ (i := 1) (N := some 57) #[true, true, false, false, false, false, false, false, false, false, false, false, false, false, false, false, false, false, false] rfl rfl (one_of HT_.out zb11) zb32 (fun K hK => ?_)
          refine goes_ Tryd.func13 zb11 rfl #[.slice (some ad168) t159.length co48] (by rfl) rfl rfl zb1 ?_
          with_reducible refine (response_lengths.calls kj3 _ _ t159 t167 _ ?side1 ?side2 A40.out).mono ?_
          (case side1 => repeat (first | exact (Kd.R_reads' HO163.out).2.2 | (with_reducible refine Kd.C_alloc ?_ _) | (with_reducible refine Kd.C_drewN ?_ _) | (with_reducible refine Kd.C_drew ?_)))
          (case side2 => exact (Kd.R_reads' HO163.out).2.1)
          rintro e w54 ⟨rfl, hb⟩
          have HS0_ := (hb.cell (World.block_lt_of_cell? _ _ (hHeld.1))).trans (hHeld.1)
          have HS1_ := (hb.cell (World.block_lt_of_cell? _ _ (hHeld.2))).trans (hHeld.2)
          refine ⟨_, rfl, ?_⟩
          have n0_ := Aside0.mk (Kd.R_below zb13 hb)
          have n1_ := Aside0.mk (blk_below (g := gb154) (o := .cells #[.int .i64 0, .slice none 0 0, .string (⟨#[]⟩ : ByteArray)] 24 (0, 0)) zb4 hb)
          have n2_ := Aside0.mk (blk_below (g := gb164) (o := .cells #[.int .i64 t158, .slice (some ad168) t159.length co48, .string t160] 24 (0, 0)) zb18 hb)
          have n3_ := Aside0.mk (below_step zb5 hb)
          clear HO163
          clear BK154
          clear BK164
          clear HB
          have HO163 := n0_
          have BK154 := n1_
          have BK164 := n2_
          have HB := n3_
          clear n0_ n1_ n2_ n3_
          (try clear hb)
          (try clear hb2)
          (try clear hk)
          (try clear hi)
          refine hK.out _ _ ⟨HS0_, HS1_⟩ (fun hHeld => ?_)
          clear hK K
          refine norm_ (a' := ?_) ?_ ?_
          rotate_left
          ·show Act.put _ (some 57) _ = _
           simp only [Act.put, List.setIfInBounds_toArray, List.set_cons_zero, List.set_cons_succ, i64_w, i32_w]
           rfl
          refine pure_ (i := 2) (N := some 58) (v := ?_) (a' := ?_) #[true, true, true, false, false, false, false, false, false, false, false, false, false, false, false, false, false, false, false] rfl rfl (any_of HT_.out zb11) (fun _ _ _ h => h) (Or.inl ⟨by rfl, ?_⟩) ?_ ?_
          rotate_left
          ·intro w'
           go_simp
           first | with_reducible rfl | (rw [if_neg zb2])
          rotate_left
          ·simp only [Act.put, List.setIfInBounds_toArray, List.set_cons_zero, List.set_cons_succ, i64_w, i32_w]
           rfl
          refine pure_ (i := 3) (N := some 59) (v := ?_) (a' := ?_) #[true, true, true, true, false, false, false, false, false, false, false, false, false, false, false, false, false, false, false] rfl rfl (any_of HT_.out zb11) (fun _ _ _ h => h) (Or.inl ⟨by rfl, ?_⟩) ?_ ?_
          rotate_left
          ·intro w'
           go_simp
           first | with_reducible rfl | (rw [if_neg zb2])
          rotate_left
          ·simp only [Act.put, List.setIfInBounds_toArray, List.set_cons_zero, List.set_cons_succ, i64_w, i32_w]
           rfl
          refine pure_ (i := 4) (N := some 60) (v := ?_) (a' := ?_) #[true, true, true, true, true, false, false, false, false, false, false, false, false, false, false, false, false, false, false] rfl rfl (any_of HT_.out zb11) (fun _ _ _ h => h) (Or.inl ⟨by rfl, ?_⟩) ?_ ?_
          rotate_left
          ·intro w'
           go_simp
           first | with_reducible rfl | (rw [if_neg zb2])
          rotate_left
          ·simp only [Act.put, List.setIfInBounds_toArray, List.set_cons_zero, List.set_cons_succ, i64_w, i32_w]
           rfl
          refine pure_ (i := 5) (N := some 61) (v := ?_) (a' := ?_) #[true, true, true, true, true, true, false, false, false, false, false, false, false, false, false, false, false, false, false] rfl rfl (any_of HT_.out zb11) (fun _ _ _ h => h) (Or.inl ⟨by rfl, ?_⟩) ?_ ?_
          rotate_left
          ·intro w'
           go_simp
           first | with_reducible rfl | (rw [if_neg zb2])
          rotate_left
          ·simp only [Act.put, List.setIfInBounds_toArray, List.set_cons_zero, List.set_cons_succ, i64_w, i32_w]
           rfl
          refine pure_ (i := 6) (N := some 62) (v := ?_) (a' := ?_) #[true, true, true, true, true, true, true, false, false, false, false, false, false, false, false, false, false, false, false] rfl rfl (any_of HT_.out zb11) (fun _ _ _ h => h) (Or.inl ⟨by rfl, ?_⟩) ?_ ?_
          rotate_left
          ·intro w'
           go_simp
           first | with_reducible rfl | (rw [if_neg zb2])
          rotate_left
          ·simp only [Act.put, List.setIfInBounds_toArray, List.set_cons_zero, List.set_cons_succ, i64_w, i32_w]
           rfl
          refine pure_ (i := 8) (N := some 64) (v := ?_) (a' := ?_) #[true, true, true, true, true, true, true, false, true, false, false, false, false, false, false, false, false, false, false] rfl rfl (any_of HT_.out zb11) (fun _ _ _ h => h) (Or.inl ⟨by rfl, ?_⟩) ?_ ?_
          rotate_left
          ·intro w'
           go_simp
           first | with_reducible rfl | (rw [if_neg zb2])
          rotate_left
          ·simp only [Act.put, List.setIfInBounds_toArray, List.set_cons_zero, List.set_cons_succ, i64_w, i32_w]
           rfl
          refine pure_ (i := 9) (N := some 65) (v := ?_) (a' := ?_) #[true, true, true, true, true, true, true, false, true, true, false, false, false, false, false, false, false, false, false] rfl rfl (any_of HT_.out zb11) (fun _ _ _ h => h) (Or.inl ⟨by rfl, ?_⟩) ?_ ?_
          rotate_left
          ·intro w'
           go_simp
           first | with_reducible rfl | (rw [if_neg zb2])
          rotate_left
          ·simp only [Act.put, List.setIfInBounds_toArray, List.set_cons_zero, List.set_cons_succ, i64_w, i32_w]
           rfl
          refine take_ (i := 7) (N := some 63) (v := ?_) (a' := ?_) #[true, true, true, true, true, true, true, true, true, true, false, false, false, false, false, false, false, false, false] rfl rfl (take_ofW HT_.out HW_.out zb11) (fun _ _ _ h => h) (Or.inl ⟨by rfl, ?_⟩) hHeld ?_ ?_
          rotate_left
          ·rintro w' ⟨s0, s1⟩
           go_simp
           first | with_reducible rfl | (rw [if_neg zb2])
          rotate_left
          ·simp only [Act.put, List.setIfInBounds_toArray, List.set_cons_zero, List.set_cons_succ, i64_w, i32_w]
           rfl
          refine one_ (i := 10) (N := some 66) #[true, true, true, true, true, true, true, true, true, true, true, false, false, false, false, false, false, false, false] rfl rfl (one_of HT_.out zb11) zb32 (fun K hK => ?_)
          refine goes_ Tryd.func15 zb11 rfl #[.int .i64 (t160.size : Int)] (by rfl) rfl rfl zb1 ?_
          with_reducible refine (strconv_Itoa.calls (t160.size : Int) t169 _ ?side1 A45.out).mono ?_
          (case side1 => exact Glob.below hGA.out zb5)
          rintro e w55 ⟨rfl, hb⟩
          have HS0_ := (hb.cell (World.block_lt_of_cell? _ _ (hHeld.1))).trans (hHeld.1)
          have HS1_ := (hb.cell (World.block_lt_of_cell? _ _ (hHeld.2))).trans (hHeld.2)
          refine ⟨_, rfl, ?_⟩
          have n0_ := Aside0.mk (Kd.R_below zb13 hb)
          have n1_ := Aside0.mk (blk_below (g := gb154) (o := .cells #[.int .i64 0, .slice none 0 0, .string (⟨#[]⟩ : ByteArray)] 24 (0, 0)) zb4 hb)
          have n2_ := Aside0.mk (blk_below (g := gb164) (o := .cells #[.int .i64 t158, .slice (some ad168) t159.length co48, .string t160] 24 (0, 0)) zb18 hb)
          have n3_ := Aside0.mk (below_step zb5 hb)
          clear HO163
          clear BK154
          clear BK164
          clear HB
          have HO163 := n0_
          have BK154 := n1_
          have BK164 := n2_
          have HB := n3_
          clear n0_ n1_ n2_ n3_
          (try clear hb)
          (try clear hb2)
          (try clear hk)
          (try clear hi)
          refine hK.out _ _ ⟨HS0_, HS1_⟩ (fun hHeld => ?_)
          clear hK K
          refine norm_ (a' := ?_) ?_ ?_
          rotate_left
          ·show Act.put _ (some 66) _ = _
           simp only [Act.put, List.setIfInBounds_toArray, List.set_cons_zero, List.set_cons_succ, i64_w, i32_w]
           rfl
          refine pure_ (i := 11) (N := some 67) (v := ?_) (a' := ?_) #[true, true, true, true, true, true, true, true, true, true, true, true, false, false, false, false, false, false, false] rfl rfl (any_of HT_.out zb11) (fun _ _ _ h => h) (Or.inl ⟨by rfl, ?_⟩) ?_ ?_
          rotate_left
          ·intro w'
           go_simp
           first | with_reducible rfl | (rw [if_neg zb2])
          rotate_left
          ·simp only [Act.put, List.setIfInBounds_toArray, List.set_cons_zero, List.set_cons_succ, i64_w, i32_w]
           rfl
          refine pure_ (i := 12) (N := some 68) (v := ?_) (a' := ?_) #[true, true, true, true, true, true, true, true, true, true, true, true, true, false, false, false, false, false, false] rfl rfl (any_of HT_.out zb11) (fun _ _ _ h => h) (Or.inl ⟨by rfl, ?_⟩) ?_ ?_
          rotate_left
          ·intro w'
           go_simp
           first | with_reducible rfl | (rw [if_neg zb2])
          rotate_left
          ·simp only [Act.put, List.setIfInBounds_toArray, List.set_cons_zero, List.set_cons_succ, i64_w, i32_w]
           rfl
          refine pure_ (i := 13) (N := some 69) (v := ?_) (a' := ?_) #[true, true, true, true, true, true, true, true, true, true, true, true, true, true, false, false, false, false, false] rfl rfl (any_of HT_.out zb11) (fun _ _ _ h => h) (Or.inl ⟨by rfl, ?_⟩) ?_ ?_
          rotate_left
          ·intro w'
           go_simp
           first | with_reducible rfl | (rw [if_neg zb2])
          rotate_left
          ·simp only [Act.put, List.setIfInBounds_toArray, List.set_cons_zero, List.set_cons_succ, i64_w, i32_w]
           rfl
          refine pure_ (i := 14) (N := some 70) (v := ?_) (a' := ?_) #[true, true, true, true, true, true, true, true, true, true, true, true, true, true, true, false, false, false, false] rfl rfl (any_of HT_.out zb11) (fun _ _ _ h => h) (Or.inl ⟨by rfl, ?_⟩) ?_ ?_
          rotate_left
          ·intro w'
           go_simp
           first | with_reducible rfl | (rw [if_neg zb2])
          rotate_left
          ·simp only [Act.put, List.setIfInBounds_toArray, List.set_cons_zero, List.set_cons_succ, i64_w, i32_w]
           rfl
          refine pure_ (i := 15) (N := some 71) (v := undef) (a' := ?_) #[true, true, true, true, true, true, true, true, true, true, true, true, true, true, true, true, false, false, false] rfl rfl (any_of HT_.out zb11) (fun _ _ _ h => h) (Or.inr ⟨by rfl, rfl⟩) ?_ ?_
          rotate_left
          ·simp only [Act.put, List.setIfInBounds_toArray, List.set_cons_zero, List.set_cons_succ, i64_w, i32_w]
           rfl
          refine pure_ (i := 16) (N := some 72) (v := undef) (a' := ?_) #[true, true, true, true, true, true, true, true, true, true, true, true, true, true, true, true, true, false, false] rfl rfl (any_of HT_.out zb11) (fun _ _ _ h => h) (Or.inr ⟨by rfl, rfl⟩) ?_ ?_
          rotate_left
          ·simp only [Act.put, List.setIfInBounds_toArray, List.set_cons_zero, List.set_cons_succ, i64_w, i32_w]
           rfl
          refine pure_ (i := 17) (N := some 73) (v := undef) (a' := ?_) #[true, true, true, true, true, true, true, true, true, true, true, true, true, true, true, true, true, true, false] rfl rfl (any_of HT_.out zb11) (fun _ _ _ h => h) (Or.inr ⟨by rfl, rfl⟩) ?_ ?_
          rotate_left
          ·simp only [Act.put, List.setIfInBounds_toArray, List.set_cons_zero, List.set_cons_succ, i64_w, i32_w]
           rfl
          refine pure_ (i := 18) (N := some 74) (v := ?_) (a' := ?_) #[true, true, true, true, true, true, true, true, true, true, true, true, true, true, true, true, true, true, true] rfl rfl (any_of HT_.out zb11) (fun _ _ _ h => h) (Or.inl ⟨by rfl, ?_⟩) ?_ ?_
          rotate_left
          ·intro w'
           go_simp
           first | with_reducible rfl | (rw [if_neg zb2])
          rotate_left
          ·simp only [Act.put, List.setIfInBounds_toArray, List.set_cons_zero, List.set_cons_succ, i64_w, i32_w]
           rfl
          refine done_ (done_of HT_.out zb11) ?_
          have hcz56_0 : w55.cell? ⟨gb154, 0, none⟩ = some (.int .i64 0) := (blk_cell BK154.out 0).trans rfl
          have hcz56_1 : w55.cell? ⟨gb154, 1, none⟩ = some (.slice none 0 0) := (blk_cell BK154.out 1).trans rfl
          have hcz56_2 : w55.cell? ⟨gb154, 2, none⟩ = some (.string (⟨#[]⟩ : ByteArray)) := (blk_cell BK154.out 2).trans rfl
          have hfz56_0 := blk_frozen BK154.out 0
          have hfz56_1 := blk_frozen BK154.out 1
          have hfz56_2 := blk_frozen BK154.out 2
          try go_wp2
          refine bodyPost_ret (results_ct rfl _ _ gb154 24 #[.int .i64 0, .slice none 0 0, .string (⟨#[]⟩ : ByteArray)] (0, 0) _ rfl zb6 Tryd.underlying24 rfl zb11) rfl ?_
          exact ⟨_, by first | rfl | (simp [errW_none, errW_some, bne_nil_] <;> rfl) | (simp only [← hji42]; first | rfl | (simp [errW_none, errW_some, bne_nil_] <;> rfl)) | (simp [*, errW_none, errW_some] <;> rfl), by first | exact Kd.R_nil _ _ _ _ _ | exact Kd.N_nil _ _ _ _ _ | exact Kd.V_nil _ _ _ _ _ | exact Kd.Q_nil _ _ _ _ _ | exact Kd.S_nil _ _ _ _ _, zb5⟩
         ·rw [if_neg c46] at H
          have c46b0 : (!((((rd_T35 t159 (ji42)).f0).toList) == ([99, 111, 110, 116, 101, 110, 116, 45, 108, 101, 110, 103, 116, 104] : List UInt8)) || (!((((rd_T35 t159 (ji42)).f1).toList) == t169.toList))) = false := by simpa using c46
          clear c46
          by_cases c57 : (t160.size : Int) > 100000
          ·rw [if_pos c57] at H
           have c57b0 : decide (100000 < (t160.size : Int)) = true := decide_eq_true c57
           have c57b1 : decide (100000 < t160.size) = true := decide_eq_true zb26
           clear c57
           simp only [Option.some.injEq, Prod.mk.injEq] at H
           obtain ⟨rfl, rfl, rfl, rfl⟩ := H
           try go_wp2_with (first | ((with_reducible refine gate_callee (f := 20) rfl ?_); refine goesL_ (some 30) rfl rfl Tryd.func20 zb11 rfl #[.string t156] rfl zb1 ?_; (with_reducible refine (field_Parse.calls t156 t159 t160 t161 _ ?side1 A11.out).mono ?_); (case side1 => exact Glob.below hGA.out zb3); rintro e w58 ⟨v162, rfl, ho0, hb⟩; refine ⟨_, rfl, ?_⟩; have n0_ := Aside0.mk (Kd.R_lower ho0 (below_size zb3)); have n1_ := Aside0.mk (blk_below (g := gb154) (o := .cells #[.int .i64 0, .slice none 0 0, .string (⟨#[]⟩ : ByteArray)] 24 (0, 0)) zb4 hb); have n2_ := Aside0.mk (below_step zb3 hb); clear BK154; clear HB; have HO163 := n0_; have BK154 := n1_; have HB := n2_; clear n0_ n1_ n2_; (try clear hb); (try clear hb2); (try clear hk); (try clear hi); (try clear ho0); obtain ⟨Ao59, co59, eo59⟩ := Kd.R_slice HO163.out; subst eo59) | ((with_reducible refine gate_dst (N := 11) rfl ?_); (try (refine gate_guard (by rfl) ?_; dsimp only)); refine box_event ?hg (N := 11) ?hd (cs := #[.int .i64 0, .slice none 0 0, .string (⟨#[]⟩ : ByteArray)]) (t := 24) ?hr ?_; (case hd => rfl); (case hg => rfl); (case hr => first | (go_simp; done) | (go_simp; rfl)); intro gb164 hg w60 hbox hb; have n0_ := Aside0.mk (Kd.R_below zb13 hb); have n1_ := Aside0.mk (blk_below (g := gb154) (o := .cells #[.int .i64 0, .slice none 0 0, .string (⟨#[]⟩ : ByteArray)] 24 (0, 0)) zb4 hb); have n2_ := Aside0.mk (below_step zb3 hb); have n3_ := Aside0.mk (hbox); have n4_ := Aside0.mk ((by rw [hg]; exact (below_size zb3) : w.heap.size ≤ gb164)); have n5_ := Aside0.mk ((by rw [hg]; exact (below_size zb3) : w.heap.size ≤ gb164)); have n6_ := Aside0.mk ((by rw [hg]; exact Nat.ne_of_lt (blk_lt (g := gb154) (o := .cells #[.int .i64 0, .slice none 0 0, .string (⟨#[]⟩ : ByteArray)] 24 (0, 0)) zb4) : gb154 ≠ gb164)); have n7_ := Aside0.mk ((by rw [hg]; exact Nat.ne_of_gt (blk_lt (g := gb154) (o := .cells #[.int .i64 0, .slice none 0 0, .string (⟨#[]⟩ : ByteArray)] 24 (0, 0)) zb4) : gb164 ≠ gb154)); clear HO163; clear BK154; clear HB; have HO163 := n0_; have BK154 := n1_; have HB := n2_; have BK164 := n3_; have GW164 := n4_; have GE164 := n5_; have NB154_164 := n6_; have NB164_154 := n7_; clear n0_ n1_ n2_ n3_ n4_ n5_ n6_ n7_; clear hb hbox hg; have hnb61 := NB164_154.out; have hnc61 := NB154_164.out; have hcz62_0 : w60.cell? ⟨gb164, 0, none⟩ = some (.int .i64 0) := (blk_cell BK164.out 0).trans rfl; have hcz62_1 : w60.cell? ⟨gb164, 1, none⟩ = some (.slice none 0 0) := (blk_cell BK164.out 1).trans rfl; have hcz62_2 : w60.cell? ⟨gb164, 2, none⟩ = some (.string (⟨#[]⟩ : ByteArray)) := (blk_cell BK164.out 2).trans rfl; have hfz62_0 := blk_frozen BK164.out 0; have hfz62_1 := blk_frozen BK164.out 1; have hfz62_2 := blk_frozen BK164.out 2) | ((with_reducible refine gate_callee (f := 12) rfl ?_); refine goesL_ (some 43) rfl rfl Tryd.func12 zb11 rfl #[.int .i64 t158] rfl zb1 ?_; (with_reducible refine (response_bare.calls t158 false _ A13.out).mono ?_); rintro e w' ⟨rfl, ⟨nd, rfl⟩⟩; refine ⟨_, rfl, ?_⟩))
           have n0_ : Aside0 (Kd.R k35 35 (((w60.setCell ⟨gb164, 0, none⟩ (.int .i64 t158)).setCell ⟨gb164, 1, none⟩ (.slice Ao59 t159.length co59)).setCell ⟨gb164, 2, none⟩ (.string t160)) w.heap.size (fun _ => True) (.slice Ao59 t159.length co59) t159) := ⟨by (with_reducible repeat (first | apply Kd.R_alloc | apply Kd.R_drewN | apply Kd.R_drew)); exact Kd.R_mono (Kd.R_far (p := ⟨gb164, 2, none⟩) (Kd.R_far (p := ⟨gb164, 1, none⟩) (Kd.R_far (p := ⟨gb164, 0, none⟩) (Kd.R_types HO163.out BK164.out zb32) (fun _ hk => hk.2) (.int .i64 t158)) (fun _ hk => hk.2) (.slice Ao59 t159.length co59)) (fun _ hk => hk.2) (.string t160)) (fun _ hk => trivial)⟩
           have n1_ : Aside0 ((((w60.setCell ⟨gb164, 0, none⟩ (.int .i64 t158)).setCell ⟨gb164, 1, none⟩ (.slice Ao59 t159.length co59)).setCell ⟨gb164, 2, none⟩ (.string t160)).heap[gb154]? = some (.cells #[.int .i64 0, .slice none 0 0, .string (⟨#[]⟩ : ByteArray)] 24 (0, 0))) := ⟨by (with_reducible repeat (first | refine blk_drewN ?_ _ | refine blk_drew ?_ | refine blk_alloc ?_ _)); refine blk_far ?_ NB154_164.out _; (with_reducible repeat (first | refine blk_drewN ?_ _ | refine blk_drew ?_ | refine blk_alloc ?_ _)); refine blk_far ?_ NB154_164.out _; (with_reducible repeat (first | refine blk_drewN ?_ _ | refine blk_drew ?_ | refine blk_alloc ?_ _)); refine blk_far ?_ NB154_164.out _; (with_reducible repeat (first | refine blk_drewN ?_ _ | refine blk_drew ?_ | refine blk_alloc ?_ _)); exact BK154.out⟩
           have n2_ : Aside0 ((((w60.setCell ⟨gb164, 0, none⟩ (.int .i64 t158)).setCell ⟨gb164, 1, none⟩ (.slice Ao59 t159.length co59)).setCell ⟨gb164, 2, none⟩ (.string t160)).heap[gb164]? = some (.cells #[.int .i64 t158, .slice Ao59 t159.length co59, .string t160] 24 (0, 0))) := ⟨by (with_reducible repeat (first | refine blk_drewN ?_ _ | refine blk_drew ?_ | refine blk_alloc ?_ _)); refine blk_put (cs := #[.int .i64 t158, .slice Ao59 t159.length co59, .string (⟨#[]⟩ : ByteArray)]) ?_ 2 _ rfl; (with_reducible repeat (first | refine blk_drewN ?_ _ | refine blk_drew ?_ | refine blk_alloc ?_ _)); refine blk_put (cs := #[.int .i64 t158, .slice none 0 0, .string (⟨#[]⟩ : ByteArray)]) ?_ 1 _ rfl; (with_reducible repeat (first | refine blk_drewN ?_ _ | refine blk_drew ?_ | refine blk_alloc ?_ _)); refine blk_put (cs := #[.int .i64 0, .slice none 0 0, .string (⟨#[]⟩ : ByteArray)]) ?_ 0 _ rfl; (with_reducible repeat (first | refine blk_drewN ?_ _ | refine blk_drew ?_ | refine blk_alloc ?_ _)); exact BK164.out⟩
           have n3_ : Aside0 (Below w.heap.size w (((w60.setCell ⟨gb164, 0, none⟩ (.int .i64 t158)).setCell ⟨gb164, 1, none⟩ (.slice Ao59 t159.length co59)).setCell ⟨gb164, 2, none⟩ (.string t160))) := ⟨by repeat (first | (with_reducible first | exact HB.out | apply below_alloc | apply pw_below_drewN | apply below_drew1 | refine below_set ?_ GE154.out | refine below_set ?_ GE164.out) | exact HB.out)⟩
           (try clear HO163)
           (try clear BK154)
           (try clear BK164)
           (try clear HB)
           generalize (((w60.setCell ⟨gb164, 0, none⟩ (.int .i64 t158)).setCell ⟨gb164, 1, none⟩ (.slice Ao59 t159.length co59)).setCell ⟨gb164, 2, none⟩ (.string t160)) = w63 at n0_ n1_ n2_ n3_ ⊢
           have HO163 := n0_
           have BK154 := n1_
           have BK164 := n2_
           have HB := n3_
           clear n0_ n1_ n2_ n3_
           (try (rw [drewN_self w63]; generalize hq_ : World.drewN w63 _ = w63; have n0_ : Aside0 (Kd.R k35 35 w63 w.heap.size (fun _ => True) (.slice Ao59 t159.length co59) t159) := ⟨by rw [← hq_]; exact zb13⟩; have n1_ : Aside0 (w63.heap[gb154]? = some (.cells #[.int .i64 0, .slice none 0 0, .string (⟨#[]⟩ : ByteArray)] 24 (0, 0))) := ⟨by rw [← hq_]; exact zb4⟩; have n2_ : Aside0 (w63.heap[gb164]? = some (.cells #[.int .i64 t158, .slice Ao59 t159.length co59, .string t160] 24 (0, 0))) := ⟨by rw [← hq_]; exact zb18⟩; have n3_ : Aside0 (Below w.heap.size w w63) := ⟨by rw [← hq_]; exact zb5⟩; clear HO163 BK154 BK164 HB hq_; have HO163 := n0_; have BK154 := n1_; have BK164 := n2_; have HB := n3_; clear n0_ n1_ n2_ n3_))
           have n0_ := Aside0.mk (Kd.R_drew HO163.out)
           have n1_ := Aside0.mk (blk_drew BK154.out)
           have n2_ := Aside0.mk (blk_drew BK164.out)
           have n3_ := Aside0.mk (below_drew1 HB.out)
           clear HO163
           clear BK154
           clear BK164
           clear HB
           have HO163 := n0_
           have BK154 := n1_
           have BK164 := n2_
           have HB := n3_
           clear n0_ n1_ n2_ n3_
           have p168 : 0 ≤ ((ji42) : Int) := of_decide_eq_true zb12
           have q168 : (ji42) < (t159.length : Int) := of_decide_eq_true zb12
           obtain ⟨ad168, e168, hx168_0, hx168_1⟩ := at_T35 (Kd.R_reads' HO163.out).2.2 (ji42) p168 q168
           cases e168
           replace p168 := eq_true p168
           replace q168 := eq_true q168
           refine start_ (n := 19) (S := fun w' => w'.cell? (ad168.add (((ji42)).toNat * 2)) = some (.string ((rd_T35 t159 (ji42)).f0)) ∧ w'.cell? ⟨(ad168.add (((ji42)).toNat * 2)).block, (ad168.add (((ji42)).toNat * 2)).off + 1, none⟩ = some (.string ((rd_T35 t159 (ji42)).f1))) (ds := []) #[false, false, false, false, false, false, false, false, false, false, false, false, false, false, false, false, false, false, false] zb11 rfl rfl ⟨hx168_0, hx168_1⟩ (fun hHeld => ?_); refine with_tabW response_Parse.tab14 response_Parse.bits14 (fun HT_ HW_ => ?_)
           skip
           refine pure_ (i := 0) (N := some 56) (v := ?_) (a' := ?_) #[true, false, false, false, false, false, false, false, false, false, false, false, false, false, false, false, false, false, false] rfl rfl (any_of HT_.out zb11) (fun _ _ _ h => h) (Or.inl ⟨by rfl, ?_⟩) ?_ ?_
           rotate_left
           ·intro w'
            go_simp
            first | with_reducible rfl | (rw [if_neg zb2])
           rotate_left
           ·simp only [Act.put, List.setIfInBounds_toArray, List.set_cons_zero, List.set_cons_succ, i64_w, i32_w]
            rfl
           refine one_ (i := 1) (N := some 57) #[true, true, false, false, false, false, false, false, false, false, false, false, false, false, false, false, false, false, false] rfl rfl (one_of HT_.out zb11) zb32 (fun K hK => ?_)
           refine goes_ Tryd.func13 zb11 rfl #[.slice (some ad168) t159.length co59] (by rfl) rfl rfl zb1 ?_
           with_reducible refine (response_lengths.calls kj3 _ _ t159 t167 _ ?side1 ?side2 A40.out).mono ?_
           (case side1 => repeat (first | exact (Kd.R_reads' HO163.out).2.2 | (with_reducible refine Kd.C_alloc ?_ _) | (with_reducible refine Kd.C_drewN ?_ _) | (with_reducible refine Kd.C_drew ?_)))
           (case side2 => exact (Kd.R_reads' HO163.out).2.1)
           rintro e w65 ⟨rfl, hb⟩
           have HS0_ := (hb.cell (World.block_lt_of_cell? _ _ (hHeld.1))).trans (hHeld.1)
           have HS1_ := (hb.cell (World.block_lt_of_cell? _ _ (hHeld.2))).trans (hHeld.2)
           refine ⟨_, rfl, ?_⟩
           have n0_ := Aside0.mk (Kd.R_below zb13 hb)
           have n1_ := Aside0.mk (blk_below (g := gb154) (o := .cells #[.int .i64 0, .slice none 0 0, .string (⟨#[]⟩ : ByteArray)] 24 (0, 0)) zb4 hb)
           have n2_ := Aside0.mk (blk_below (g := gb164) (o := .cells #[.int .i64 t158, .slice (some ad168) t159.length co59, .string t160] 24 (0, 0)) zb18 hb)
           have n3_ := Aside0.mk (below_step zb5 hb)
           clear HO163
           clear BK154
           clear BK164
           clear HB
           have HO163 := n0_
           have BK154 := n1_
           have BK164 := n2_
           have HB := n3_
           clear n0_ n1_ n2_ n3_
           (try clear hb)
           (try clear hb2)
           (try clear hk)
           (try clear hi)
           refine hK.out _ _ ⟨HS0_, HS1_⟩ (fun hHeld => ?_)
           clear hK K
           refine norm_ (a' := ?_) ?_ ?_
           rotate_left
           ·show Act.put _ (some 57) _ = _
            simp only [Act.put, List.setIfInBounds_toArray, List.set_cons_zero, List.set_cons_succ, i64_w, i32_w]
            rfl
           refine pure_ (i := 2) (N := some 58) (v := ?_) (a' := ?_) #[true, true, true, false, false, false, false, false, false, false, false, false, false, false, false, false, false, false, false] rfl rfl (any_of HT_.out zb11) (fun _ _ _ h => h) (Or.inl ⟨by rfl, ?_⟩) ?_ ?_
           rotate_left
           ·intro w'
            go_simp
            first | with_reducible rfl | (rw [if_neg zb2])
           rotate_left
           ·simp only [Act.put, List.setIfInBounds_toArray, List.set_cons_zero, List.set_cons_succ, i64_w, i32_w]
            rfl
           refine pure_ (i := 3) (N := some 59) (v := ?_) (a' := ?_) #[true, true, true, true, false, false, false, false, false, false, false, false, false, false, false, false, false, false, false] rfl rfl (any_of HT_.out zb11) (fun _ _ _ h => h) (Or.inl ⟨by rfl, ?_⟩) ?_ ?_
           rotate_left
           ·intro w'
            go_simp
            first | with_reducible rfl | (rw [if_neg zb2])
           rotate_left
           ·simp only [Act.put, List.setIfInBounds_toArray, List.set_cons_zero, List.set_cons_succ, i64_w, i32_w]
            rfl
           refine pure_ (i := 4) (N := some 60) (v := ?_) (a' := ?_) #[true, true, true, true, true, false, false, false, false, false, false, false, false, false, false, false, false, false, false] rfl rfl (any_of HT_.out zb11) (fun _ _ _ h => h) (Or.inl ⟨by rfl, ?_⟩) ?_ ?_
           rotate_left
           ·intro w'
            go_simp
            first | with_reducible rfl | (rw [if_neg zb2])
           rotate_left
           ·simp only [Act.put, List.setIfInBounds_toArray, List.set_cons_zero, List.set_cons_succ, i64_w, i32_w]
            rfl
           refine pure_ (i := 5) (N := some 61) (v := ?_) (a' := ?_) #[true, true, true, true, true, true, false, false, false, false, false, false, false, false, false, false, false, false, false] rfl rfl (any_of HT_.out zb11) (fun _ _ _ h => h) (Or.inl ⟨by rfl, ?_⟩) ?_ ?_
           rotate_left
           ·intro w'
            go_simp
            first | with_reducible rfl | (rw [if_neg zb2])
           rotate_left
           ·simp only [Act.put, List.setIfInBounds_toArray, List.set_cons_zero, List.set_cons_succ, i64_w, i32_w]
            rfl
           refine pure_ (i := 6) (N := some 62) (v := ?_) (a' := ?_) #[true, true, true, true, true, true, true, false, false, false, false, false, false, false, false, false, false, false, false] rfl rfl (any_of HT_.out zb11) (fun _ _ _ h => h) (Or.inl ⟨by rfl, ?_⟩) ?_ ?_
           rotate_left
           ·intro w'
            go_simp
            first | with_reducible rfl | (rw [if_neg zb2])
           rotate_left
           ·simp only [Act.put, List.setIfInBounds_toArray, List.set_cons_zero, List.set_cons_succ, i64_w, i32_w]
            rfl
           refine pure_ (i := 8) (N := some 64) (v := ?_) (a' := ?_) #[true, true, true, true, true, true, true, false, true, false, false, false, false, false, false, false, false, false, false] rfl rfl (any_of HT_.out zb11) (fun _ _ _ h => h) (Or.inl ⟨by rfl, ?_⟩) ?_ ?_
           rotate_left
           ·intro w'
            go_simp
            first | with_reducible rfl | (rw [if_neg zb2])
           rotate_left
           ·simp only [Act.put, List.setIfInBounds_toArray, List.set_cons_zero, List.set_cons_succ, i64_w, i32_w]
            rfl
           refine pure_ (i := 9) (N := some 65) (v := ?_) (a' := ?_) #[true, true, true, true, true, true, true, false, true, true, false, false, false, false, false, false, false, false, false] rfl rfl (any_of HT_.out zb11) (fun _ _ _ h => h) (Or.inl ⟨by rfl, ?_⟩) ?_ ?_
           rotate_left
           ·intro w'
            go_simp
            first | with_reducible rfl | (rw [if_neg zb2])
           rotate_left
           ·simp only [Act.put, List.setIfInBounds_toArray, List.set_cons_zero, List.set_cons_succ, i64_w, i32_w]
            rfl
           refine take_ (i := 7) (N := some 63) (v := ?_) (a' := ?_) #[true, true, true, true, true, true, true, true, true, true, false, false, false, false, false, false, false, false, false] rfl rfl (take_ofW HT_.out HW_.out zb11) (fun _ _ _ h => h) (Or.inl ⟨by rfl, ?_⟩) hHeld ?_ ?_
           rotate_left
           ·rintro w' ⟨s0, s1⟩
            go_simp
            first | with_reducible rfl | (rw [if_neg zb2])
           rotate_left
           ·simp only [Act.put, List.setIfInBounds_toArray, List.set_cons_zero, List.set_cons_succ, i64_w, i32_w]
            rfl
           refine one_ (i := 10) (N := some 66) #[true, true, true, true, true, true, true, true, true, true, true, false, false, false, false, false, false, false, false] rfl rfl (one_of HT_.out zb11) zb32 (fun K hK => ?_)
           refine goes_ Tryd.func15 zb11 rfl #[.int .i64 (t160.size : Int)] (by rfl) rfl rfl zb1 ?_
           with_reducible refine (strconv_Itoa.calls (t160.size : Int) t169 _ ?side1 A45.out).mono ?_
           (case side1 => exact Glob.below hGA.out zb5)
           rintro e w66 ⟨rfl, hb⟩
           have HS0_ := (hb.cell (World.block_lt_of_cell? _ _ (hHeld.1))).trans (hHeld.1)
           have HS1_ := (hb.cell (World.block_lt_of_cell? _ _ (hHeld.2))).trans (hHeld.2)
           refine ⟨_, rfl, ?_⟩
           have n0_ := Aside0.mk (Kd.R_below zb13 hb)
           have n1_ := Aside0.mk (blk_below (g := gb154) (o := .cells #[.int .i64 0, .slice none 0 0, .string (⟨#[]⟩ : ByteArray)] 24 (0, 0)) zb4 hb)
           have n2_ := Aside0.mk (blk_below (g := gb164) (o := .cells #[.int .i64 t158, .slice (some ad168) t159.length co59, .string t160] 24 (0, 0)) zb18 hb)
           have n3_ := Aside0.mk (below_step zb5 hb)
           clear HO163
           clear BK154
           clear BK164
           clear HB
           have HO163 := n0_
           have BK154 := n1_
           have BK164 := n2_
           have HB := n3_
           clear n0_ n1_ n2_ n3_
           (try clear hb)
           (try clear hb2)
           (try clear hk)
           (try clear hi)
           refine hK.out _ _ ⟨HS0_, HS1_⟩ (fun hHeld => ?_)
           clear hK K
           refine norm_ (a' := ?_) ?_ ?_
           rotate_left
           ·show Act.put _ (some 66) _ = _
            simp only [Act.put, List.setIfInBounds_toArray, List.set_cons_zero, List.set_cons_succ, i64_w, i32_w]
            rfl
           refine pure_ (i := 11) (N := some 67) (v := ?_) (a' := ?_) #[true, true, true, true, true, true, true, true, true, true, true, true, false, false, false, false, false, false, false] rfl rfl (any_of HT_.out zb11) (fun _ _ _ h => h) (Or.inl ⟨by rfl, ?_⟩) ?_ ?_
           rotate_left
           ·intro w'
            go_simp
            first | with_reducible rfl | (rw [if_neg zb2])
           rotate_left
           ·simp only [Act.put, List.setIfInBounds_toArray, List.set_cons_zero, List.set_cons_succ, i64_w, i32_w]
            rfl
           refine pure_ (i := 12) (N := some 68) (v := ?_) (a' := ?_) #[true, true, true, true, true, true, true, true, true, true, true, true, true, false, false, false, false, false, false] rfl rfl (any_of HT_.out zb11) (fun _ _ _ h => h) (Or.inl ⟨by rfl, ?_⟩) ?_ ?_
           rotate_left
           ·intro w'
            go_simp
            first | with_reducible rfl | (rw [if_neg zb2])
           rotate_left
           ·simp only [Act.put, List.setIfInBounds_toArray, List.set_cons_zero, List.set_cons_succ, i64_w, i32_w]
            rfl
           refine pure_ (i := 13) (N := some 69) (v := ?_) (a' := ?_) #[true, true, true, true, true, true, true, true, true, true, true, true, true, true, false, false, false, false, false] rfl rfl (any_of HT_.out zb11) (fun _ _ _ h => h) (Or.inl ⟨by rfl, ?_⟩) ?_ ?_
           rotate_left
           ·intro w'
            go_simp
            first | with_reducible rfl | (rw [if_neg zb2])
           rotate_left
           ·simp only [Act.put, List.setIfInBounds_toArray, List.set_cons_zero, List.set_cons_succ, i64_w, i32_w]
            rfl
           refine pure_ (i := 14) (N := some 70) (v := ?_) (a' := ?_) #[true, true, true, true, true, true, true, true, true, true, true, true, true, true, true, false, false, false, false] rfl rfl (any_of HT_.out zb11) (fun _ _ _ h => h) (Or.inl ⟨by rfl, ?_⟩) ?_ ?_
           rotate_left
           ·intro w'
            go_simp
            first | with_reducible rfl | (rw [if_neg zb2])
           rotate_left
           ·simp only [Act.put, List.setIfInBounds_toArray, List.set_cons_zero, List.set_cons_succ, i64_w, i32_w]
            rfl
           refine pure_ (i := 15) (N := some 71) (v := ?_) (a' := ?_) #[true, true, true, true, true, true, true, true, true, true, true, true, true, true, true, true, false, false, false] rfl rfl (any_of HT_.out zb11) (fun _ _ _ h => h) (Or.inl ⟨by rfl, ?_⟩) ?_ ?_
           rotate_left
           ·intro w'
            go_simp
            first | with_reducible rfl | (rw [if_neg zb2])
           rotate_left
           ·simp only [Act.put, List.setIfInBounds_toArray, List.set_cons_zero, List.set_cons_succ, i64_w, i32_w]
            rfl
           refine pure_ (i := 16) (N := some 72) (v := ?_) (a' := ?_) #[true, true, true, true, true, true, true, true, true, true, true, true, true, true, true, true, true, false, false] rfl rfl (any_of HT_.out zb11) (fun _ _ _ h => h) (Or.inl ⟨by rfl, ?_⟩) ?_ ?_
           rotate_left
           ·intro w'
            go_simp
            first | with_reducible rfl | (rw [if_neg zb2])
           rotate_left
           ·simp only [Act.put, List.setIfInBounds_toArray, List.set_cons_zero, List.set_cons_succ, i64_w, i32_w]
            rfl
           refine pure_ (i := 17) (N := some 73) (v := ?_) (a' := ?_) #[true, true, true, true, true, true, true, true, true, true, true, true, true, true, true, true, true, true, false] rfl rfl (any_of HT_.out zb11) (fun _ _ _ h => h) (Or.inl ⟨by rfl, ?_⟩) ?_ ?_
           rotate_left
           ·intro w'
            go_simp
            first | with_reducible rfl | (rw [if_neg zb2])
           rotate_left
           ·simp only [Act.put, List.setIfInBounds_toArray, List.set_cons_zero, List.set_cons_succ, i64_w, i32_w]
            rfl
           refine pure_ (i := 18) (N := some 74) (v := ?_) (a' := ?_) #[true, true, true, true, true, true, true, true, true, true, true, true, true, true, true, true, true, true, true] rfl rfl (any_of HT_.out zb11) (fun _ _ _ h => h) (Or.inl ⟨by rfl, ?_⟩) ?_ ?_
           rotate_left
           ·intro w'
            go_simp
            first | with_reducible rfl | (rw [if_neg zb2])
           rotate_left
           ·simp only [Act.put, List.setIfInBounds_toArray, List.set_cons_zero, List.set_cons_succ, i64_w, i32_w]
            rfl
           refine done_ (done_of HT_.out zb11) ?_
           have hcz67_0 : w66.cell? ⟨gb154, 0, none⟩ = some (.int .i64 0) := (blk_cell BK154.out 0).trans rfl
           have hcz67_1 : w66.cell? ⟨gb154, 1, none⟩ = some (.slice none 0 0) := (blk_cell BK154.out 1).trans rfl
           have hcz67_2 : w66.cell? ⟨gb154, 2, none⟩ = some (.string (⟨#[]⟩ : ByteArray)) := (blk_cell BK154.out 2).trans rfl
           have hfz67_0 := blk_frozen BK154.out 0
           have hfz67_1 := blk_frozen BK154.out 1
           have hfz67_2 := blk_frozen BK154.out 2
           try go_wp2
           refine bodyPost_ret (results_ct rfl _ _ gb154 24 #[.int .i64 0, .slice none 0 0, .string (⟨#[]⟩ : ByteArray)] (0, 0) _ rfl zb6 Tryd.underlying24 rfl zb11) rfl ?_
           exact ⟨_, by first | rfl | (simp [errW_none, errW_some, bne_nil_] <;> rfl) | (simp only [← hji42]; first | rfl | (simp [errW_none, errW_some, bne_nil_] <;> rfl)) | (simp [*, errW_none, errW_some] <;> rfl), by first | exact Kd.R_nil _ _ _ _ _ | exact Kd.N_nil _ _ _ _ _ | exact Kd.V_nil _ _ _ _ _ | exact Kd.Q_nil _ _ _ _ _ | exact Kd.S_nil _ _ _ _ _, zb5⟩
          ·rw [if_neg c57] at H
           have c57b0 : decide (100000 < (t160.size : Int)) = false := decide_eq_false c57
           have c57b1 : decide (100000 < t160.size) = false := decide_eq_false zb26
           clear c57
           by_cases c68 : (ji42) ≤ (t159.length : Int)
           ·rw [if_pos c68] at H
            have c68b0 := eq_true c68
            have c68b1 : decide ((ji42) ≤ (t159.length : Int)) = true := decide_eq_true c68
            clear c68
            obtain ⟨y170, hy170⟩ : ∃ y_ : List (S35), y_ = (t159.take ((ji42) : Int).toNat) := ⟨_, rfl⟩
            replace H : (some (t158, y170, t160, 0)) = some (r1, r2, r3, r4) := by first | (rw [hy170]; with_reducible exact H) | (have H2_ := (Option.bind_some _ _).symm.trans H; rw [hy170]; with_reducible exact H2_) | (have H2_ := (Option.bind_some _ _).symm.trans H; with_reducible exact H2_) | with_reducible exact H | (rw [hy170]; exact H) | exact H
            have Ny170 := Aside0.mk hy170
            clear hy170
            simp only [Option.some.injEq, Prod.mk.injEq] at H
            obtain ⟨rfl, rfl, rfl, rfl⟩ := H
            try go_wp2_with (first | ((with_reducible refine gate_callee (f := 20) rfl ?_); refine goesL_ (some 30) rfl rfl Tryd.func20 zb11 rfl #[.string t156] rfl zb1 ?_; (with_reducible refine (field_Parse.calls t156 t159 t160 t161 _ ?side1 A11.out).mono ?_); (case side1 => exact Glob.below hGA.out zb3); rintro e w69 ⟨v162, rfl, ho0, hb⟩; refine ⟨_, rfl, ?_⟩; have n0_ := Aside0.mk (Kd.R_lower ho0 (below_size zb3)); have n1_ := Aside0.mk (blk_below (g := gb154) (o := .cells #[.int .i64 0, .slice none 0 0, .string (⟨#[]⟩ : ByteArray)] 24 (0, 0)) zb4 hb); have n2_ := Aside0.mk (below_step zb3 hb); clear BK154; clear HB; have HO163 := n0_; have BK154 := n1_; have HB := n2_; clear n0_ n1_ n2_; (try clear hb); (try clear hb2); (try clear hk); (try clear hi); (try clear ho0); obtain ⟨Ao70, co70, eo70⟩ := Kd.R_slice HO163.out; subst eo70) | ((with_reducible refine gate_dst (N := 11) rfl ?_); (try (refine gate_guard (by rfl) ?_; dsimp only)); refine box_event ?hg (N := 11) ?hd (cs := #[.int .i64 0, .slice none 0 0, .string (⟨#[]⟩ : ByteArray)]) (t := 24) ?hr ?_; (case hd => rfl); (case hg => rfl); (case hr => first | (go_simp; done) | (go_simp; rfl)); intro gb164 hg w71 hbox hb; have n0_ := Aside0.mk (Kd.R_below zb13 hb); have n1_ := Aside0.mk (blk_below (g := gb154) (o := .cells #[.int .i64 0, .slice none 0 0, .string (⟨#[]⟩ : ByteArray)] 24 (0, 0)) zb4 hb); have n2_ := Aside0.mk (below_step zb3 hb); have n3_ := Aside0.mk (hbox); have n4_ := Aside0.mk ((by rw [hg]; exact (below_size zb3) : w.heap.size ≤ gb164)); have n5_ := Aside0.mk ((by rw [hg]; exact (below_size zb3) : w.heap.size ≤ gb164)); have n6_ := Aside0.mk ((by rw [hg]; exact Nat.ne_of_lt (blk_lt (g := gb154) (o := .cells #[.int .i64 0, .slice none 0 0, .string (⟨#[]⟩ : ByteArray)] 24 (0, 0)) zb4) : gb154 ≠ gb164)); have n7_ := Aside0.mk ((by rw [hg]; exact Nat.ne_of_gt (blk_lt (g := gb154) (o := .cells #[.int .i64 0, .slice none 0 0, .string (⟨#[]⟩ : ByteArray)] 24 (0, 0)) zb4) : gb164 ≠ gb154)); clear HO163; clear BK154; clear HB; have HO163 := n0_; have BK154 := n1_; have HB := n2_; have BK164 := n3_; have GW164 := n4_; have GE164 := n5_; have NB154_164 := n6_; have NB164_154 := n7_; clear n0_ n1_ n2_ n3_ n4_ n5_ n6_ n7_; clear hb hbox hg; have hnb72 := NB164_154.out; have hnc72 := NB154_164.out; have hcz73_0 : w71.cell? ⟨gb164, 0, none⟩ = some (.int .i64 0) := (blk_cell BK164.out 0).trans rfl; have hcz73_1 : w71.cell? ⟨gb164, 1, none⟩ = some (.slice none 0 0) := (blk_cell BK164.out 1).trans rfl; have hcz73_2 : w71.cell? ⟨gb164, 2, none⟩ = some (.string (⟨#[]⟩ : ByteArray)) := (blk_cell BK164.out 2).trans rfl; have hfz73_0 := blk_frozen BK164.out 0; have hfz73_1 := blk_frozen BK164.out 1; have hfz73_2 := blk_frozen BK164.out 2) | ((with_reducible refine gate_callee (f := 12) rfl ?_); refine goesL_ (some 43) rfl rfl Tryd.func12 zb11 rfl #[.int .i64 t158] rfl zb1 ?_; (with_reducible refine (response_bare.calls t158 false _ A13.out).mono ?_); rintro e w' ⟨rfl, ⟨nd, rfl⟩⟩; refine ⟨_, rfl, ?_⟩))
            have n0_ : Aside0 (Kd.R k35 35 (((w71.setCell ⟨gb164, 0, none⟩ (.int .i64 t158)).setCell ⟨gb164, 1, none⟩ (.slice Ao70 t159.length co70)).setCell ⟨gb164, 2, none⟩ (.string t160)) w.heap.size (fun _ => True) (.slice Ao70 t159.length co70) t159) := ⟨by (with_reducible repeat (first | apply Kd.R_alloc | apply Kd.R_drewN | apply Kd.R_drew)); exact Kd.R_mono (Kd.R_far (p := ⟨gb164, 2, none⟩) (Kd.R_far (p := ⟨gb164, 1, none⟩) (Kd.R_far (p := ⟨gb164, 0, none⟩) (Kd.R_types HO163.out BK164.out zb32) (fun _ hk => hk.2) (.int .i64 t158)) (fun _ hk => hk.2) (.slice Ao70 t159.length co70)) (fun _ hk => hk.2) (.string t160)) (fun _ hk => trivial)⟩
            have n1_ : Aside0 ((((w71.setCell ⟨gb164, 0, none⟩ (.int .i64 t158)).setCell ⟨gb164, 1, none⟩ (.slice Ao70 t159.length co70)).setCell ⟨gb164, 2, none⟩ (.string t160)).heap[gb154]? = some (.cells #[.int .i64 0, .slice none 0 0, .string (⟨#[]⟩ : ByteArray)] 24 (0, 0))) := ⟨by (with_reducible repeat (first | refine blk_drewN ?_ _ | refine blk_drew ?_ | refine blk_alloc ?_ _)); refine blk_far ?_ NB154_164.out _; (with_reducible repeat (first | refine blk_drewN ?_ _ | refine blk_drew ?_ | refine blk_alloc ?_ _)); refine blk_far ?_ NB154_164.out _; (with_reducible repeat (first | refine blk_drewN ?_ _ | refine blk_drew ?_ | refine blk_alloc ?_ _)); refine blk_far ?_ NB154_164.out _; (with_reducible repeat (first | refine blk_drewN ?_ _ | refine blk_drew ?_ | refine blk_alloc ?_ _)); exact BK154.out⟩
            have n2_ : Aside0 ((((w71.setCell ⟨gb164, 0, none⟩ (.int .i64 t158)).setCell ⟨gb164, 1, none⟩ (.slice Ao70 t159.length co70)).setCell ⟨gb164, 2, none⟩ (.string t160)).heap[gb164]? = some (.cells #[.int .i64 t158, .slice Ao70 t159.length co70, .string t160] 24 (0, 0))) := ⟨by (with_reducible repeat (first | refine blk_drewN ?_ _ | refine blk_drew ?_ | refine blk_alloc ?_ _)); refine blk_put (cs := #[.int .i64 t158, .slice Ao70 t159.length co70, .string (⟨#[]⟩ : ByteArray)]) ?_ 2 _ rfl; (with_reducible repeat (first | refine blk_drewN ?_ _ | refine blk_drew ?_ | refine blk_alloc ?_ _)); refine blk_put (cs := #[.int .i64 t158, .slice none 0 0, .string (⟨#[]⟩ : ByteArray)]) ?_ 1 _ rfl; (with_reducible repeat (first | refine blk_drewN ?_ _ | refine blk_drew ?_ | refine blk_alloc ?_ _)); refine blk_put (cs := #[.int .i64 0, .slice none 0 0, .string (⟨#[]⟩ : ByteArray)]) ?_ 0 _ rfl; (with_reducible repeat (first | refine blk_drewN ?_ _ | refine blk_drew ?_ | refine blk_alloc ?_ _)); exact BK164.out⟩
            have n3_ : Aside0 (Below w.heap.size w (((w71.setCell ⟨gb164, 0, none⟩ (.int .i64 t158)).setCell ⟨gb164, 1, none⟩ (.slice Ao70 t159.length co70)).setCell ⟨gb164, 2, none⟩ (.string t160))) := ⟨by repeat (first | (with_reducible first | exact HB.out | apply below_alloc | apply pw_below_drewN | apply below_drew1 | refine below_set ?_ GE154.out | refine below_set ?_ GE164.out) | exact HB.out)⟩
            (try clear HO163)
            (try clear BK154)
            (try clear BK164)
            (try clear HB)
            generalize (((w71.setCell ⟨gb164, 0, none⟩ (.int .i64 t158)).setCell ⟨gb164, 1, none⟩ (.slice Ao70 t159.length co70)).setCell ⟨gb164, 2, none⟩ (.string t160)) = w74 at n0_ n1_ n2_ n3_ ⊢
            have HO163 := n0_
            have BK154 := n1_
            have BK164 := n2_
            have HB := n3_
            clear n0_ n1_ n2_ n3_
            (try (rw [drewN_self w74]; generalize hq_ : World.drewN w74 _ = w74; have n0_ : Aside0 (Kd.R k35 35 w74 w.heap.size (fun _ => True) (.slice Ao70 t159.length co70) t159) := ⟨by rw [← hq_]; exact zb13⟩; have n1_ : Aside0 (w74.heap[gb154]? = some (.cells #[.int .i64 0, .slice none 0 0, .string (⟨#[]⟩ : ByteArray)] 24 (0, 0))) := ⟨by rw [← hq_]; exact zb4⟩; have n2_ : Aside0 (w74.heap[gb164]? = some (.cells #[.int .i64 t158, .slice Ao70 t159.length co70, .string t160] 24 (0, 0))) := ⟨by rw [← hq_]; exact zb18⟩; have n3_ : Aside0 (Below w.heap.size w w74) := ⟨by rw [← hq_]; exact zb5⟩; clear HO163 BK154 BK164 HB hq_; have HO163 := n0_; have BK154 := n1_; have BK164 := n2_; have HB := n3_; clear n0_ n1_ n2_ n3_))
            have n0_ := Aside0.mk (Kd.R_drew HO163.out)
            have n1_ := Aside0.mk (blk_drew BK154.out)
            have n2_ := Aside0.mk (blk_drew BK164.out)
            have n3_ := Aside0.mk (below_drew1 HB.out)
            clear HO163
            clear BK154
            clear BK164
            clear HB
            have HO163 := n0_
            have BK154 := n1_
            have BK164 := n2_
            have HB := n3_
            clear n0_ n1_ n2_ n3_
            have p168 : 0 ≤ ((ji42) : Int) := of_decide_eq_true zb12
            have q168 : (ji42) < (t159.length : Int) := of_decide_eq_true zb12
            obtain ⟨ad168, e168, hx168_0, hx168_1⟩ := at_T35 (Kd.R_reads' HO163.out).2.2 (ji42) p168 q168
            cases e168
            replace p168 := eq_true p168
            replace q168 := eq_true q168
            refine start_ (n := 19) (S := fun w' => w'.cell? (ad168.add (((ji42)).toNat * 2)) = some (.string ((rd_T35 t159 (ji42)).f0)) ∧ w'.cell? ⟨(ad168.add (((ji42)).toNat * 2)).block, (ad168.add (((ji42)).toNat * 2)).off + 1, none⟩ = some (.string ((rd_T35 t159 (ji42)).f1))) (ds := []) #[false, false, false, false, false, false, false, false, false, false, false, false, false, false, false, false, false, false, false] zb11 rfl rfl ⟨hx168_0, hx168_1⟩ (fun hHeld => ?_); refine with_tabW response_Parse.tab14 response_Parse.bits14 (fun HT_ HW_ => ?_)
            skip
            refine pure_ (i := 0) (N := some 56) (v := ?_) (a' := ?_) #[true, false, false, false, false, false, false, false, false, false, false, false, false, false, false, false, false, false, false] rfl rfl (any_of HT_.out zb11) (fun _ _ _ h => h) (Or.inl ⟨by rfl, ?_⟩) ?_ ?_
            rotate_left
            ·intro w'
             go_simp
             first | with_reducible rfl | (rw [if_neg zb2])
            rotate_left
            ·simp only [Act.put, List.setIfInBounds_toArray, List.set_cons_zero, List.set_cons_succ, i64_w, i32_w]
             rfl
            refine one_ (i := 1) (N := some 57) #[true, true, false, false, false, false, false, false, false, false, false, false, false, false, false, false, false, false, false] rfl rfl (one_of HT_.out zb11) zb32 (fun K hK => ?_)
            refine goes_ Tryd.func13 zb11 rfl #[.slice (some ad168) t159.length co70] (by rfl) rfl rfl zb1 ?_
            with_reducible refine (response_lengths.calls kj3 _ _ t159 t167 _ ?side1 ?side2 A40.out).mono ?_
            (case side1 => repeat (first | exact (Kd.R_reads' HO163.out).2.2 | (with_reducible refine Kd.C_alloc ?_ _) | (with_reducible refine Kd.C_drewN ?_ _) | (with_reducible refine Kd.C_drew ?_)))
            (case side2 => exact (Kd.R_reads' HO163.out).2.1)
            rintro e w76 ⟨rfl, hb⟩
            have HS0_ := (hb.cell (World.block_lt_of_cell? _ _ (hHeld.1))).trans (hHeld.1)
            have HS1_ := (hb.cell (World.block_lt_of_cell? _ _ (hHeld.2))).trans (hHeld.2)
            refine ⟨_, rfl, ?_⟩
            have n0_ := Aside0.mk (Kd.R_below zb13 hb)
            have n1_ := Aside0.mk (blk_below (g := gb154) (o := .cells #[.int .i64 0, .slice none 0 0, .string (⟨#[]⟩ : ByteArray)] 24 (0, 0)) zb4 hb)
            have n2_ := Aside0.mk (blk_below (g := gb164) (o := .cells #[.int .i64 t158, .slice (some ad168) t159.length co70, .string t160] 24 (0, 0)) zb18 hb)
            have n3_ := Aside0.mk (below_step zb5 hb)
            clear HO163
            clear BK154
            clear BK164
            clear HB
            have HO163 := n0_
            have BK154 := n1_
            have BK164 := n2_
            have HB := n3_
            clear n0_ n1_ n2_ n3_
            (try clear hb)
            (try clear hb2)
            (try clear hk)
            (try clear hi)
            refine hK.out _ _ ⟨HS0_, HS1_⟩ (fun hHeld => ?_)
            clear hK K
            refine norm_ (a' := ?_) ?_ ?_
            rotate_left
            ·show Act.put _ (some 57) _ = _
             simp only [Act.put, List.setIfInBounds_toArray, List.set_cons_zero, List.set_cons_succ, i64_w, i32_w]
             rfl
            refine pure_ (i := 2) (N := some 58) (v := ?_) (a' := ?_) #[true, true, true, false, false, false, false, false, false, false, false, false, false, false, false, false, false, false, false] rfl rfl (any_of HT_.out zb11) (fun _ _ _ h => h) (Or.inl ⟨by rfl, ?_⟩) ?_ ?_
            rotate_left
            ·intro w'
             go_simp
             first | with_reducible rfl | (rw [if_neg zb2])
            rotate_left
            ·simp only [Act.put, List.setIfInBounds_toArray, List.set_cons_zero, List.set_cons_succ, i64_w, i32_w]
             rfl
            refine pure_ (i := 3) (N := some 59) (v := ?_) (a' := ?_) #[true, true, true, true, false, false, false, false, false, false, false, false, false, false, false, false, false, false, false] rfl rfl (any_of HT_.out zb11) (fun _ _ _ h => h) (Or.inl ⟨by rfl, ?_⟩) ?_ ?_
            rotate_left
            ·intro w'
             go_simp
             first | with_reducible rfl | (rw [if_neg zb2])
            rotate_left
            ·simp only [Act.put, List.setIfInBounds_toArray, List.set_cons_zero, List.set_cons_succ, i64_w, i32_w]
             rfl
            refine pure_ (i := 4) (N := some 60) (v := ?_) (a' := ?_) #[true, true, true, true, true, false, false, false, false, false, false, false, false, false, false, false, false, false, false] rfl rfl (any_of HT_.out zb11) (fun _ _ _ h => h) (Or.inl ⟨by rfl, ?_⟩) ?_ ?_
            rotate_left
            ·intro w'
             go_simp
             first | with_reducible rfl | (rw [if_neg zb2])
            rotate_left
            ·simp only [Act.put, List.setIfInBounds_toArray, List.set_cons_zero, List.set_cons_succ, i64_w, i32_w]
             rfl
            refine pure_ (i := 5) (N := some 61) (v := ?_) (a' := ?_) #[true, true, true, true, true, true, false, false, false, false, false, false, false, false, false, false, false, false, false] rfl rfl (any_of HT_.out zb11) (fun _ _ _ h => h) (Or.inl ⟨by rfl, ?_⟩) ?_ ?_
            rotate_left
            ·intro w'
             go_simp
             first | with_reducible rfl | (rw [if_neg zb2])
            rotate_left
            ·simp only [Act.put, List.setIfInBounds_toArray, List.set_cons_zero, List.set_cons_succ, i64_w, i32_w]
             rfl
            refine pure_ (i := 6) (N := some 62) (v := ?_) (a' := ?_) #[true, true, true, true, true, true, true, false, false, false, false, false, false, false, false, false, false, false, false] rfl rfl (any_of HT_.out zb11) (fun _ _ _ h => h) (Or.inl ⟨by rfl, ?_⟩) ?_ ?_
            rotate_left
            ·intro w'
             go_simp
             first | with_reducible rfl | (rw [if_neg zb2])
            rotate_left
            ·simp only [Act.put, List.setIfInBounds_toArray, List.set_cons_zero, List.set_cons_succ, i64_w, i32_w]
             rfl
            refine pure_ (i := 8) (N := some 64) (v := ?_) (a' := ?_) #[true, true, true, true, true, true, true, false, true, false, false, false, false, false, false, false, false, false, false] rfl rfl (any_of HT_.out zb11) (fun _ _ _ h => h) (Or.inl ⟨by rfl, ?_⟩) ?_ ?_
            rotate_left
            ·intro w'
             go_simp
             first | with_reducible rfl | (rw [if_neg zb2])
            rotate_left
            ·simp only [Act.put, List.setIfInBounds_toArray, List.set_cons_zero, List.set_cons_succ, i64_w, i32_w]
             rfl
            refine pure_ (i := 9) (N := some 65) (v := ?_) (a' := ?_) #[true, true, true, true, true, true, true, false, true, true, false, false, false, false, false, false, false, false, false] rfl rfl (any_of HT_.out zb11) (fun _ _ _ h => h) (Or.inl ⟨by rfl, ?_⟩) ?_ ?_
            rotate_left
            ·intro w'
             go_simp
             first | with_reducible rfl | (rw [if_neg zb2])
            rotate_left
            ·simp only [Act.put, List.setIfInBounds_toArray, List.set_cons_zero, List.set_cons_succ, i64_w, i32_w]
             rfl
            refine take_ (i := 7) (N := some 63) (v := ?_) (a' := ?_) #[true, true, true, true, true, true, true, true, true, true, false, false, false, false, false, false, false, false, false] rfl rfl (take_ofW HT_.out HW_.out zb11) (fun _ _ _ h => h) (Or.inl ⟨by rfl, ?_⟩) hHeld ?_ ?_
            rotate_left
            ·rintro w' ⟨s0, s1⟩
             go_simp
             first | with_reducible rfl | (rw [if_neg zb2])
            rotate_left
            ·simp only [Act.put, List.setIfInBounds_toArray, List.set_cons_zero, List.set_cons_succ, i64_w, i32_w]
             rfl
            refine one_ (i := 10) (N := some 66) #[true, true, true, true, true, true, true, true, true, true, true, false, false, false, false, false, false, false, false] rfl rfl (one_of HT_.out zb11) zb32 (fun K hK => ?_)
            refine goes_ Tryd.func15 zb11 rfl #[.int .i64 (t160.size : Int)] (by rfl) rfl rfl zb1 ?_
            with_reducible refine (strconv_Itoa.calls (t160.size : Int) t169 _ ?side1 A45.out).mono ?_
            (case side1 => exact Glob.below hGA.out zb5)
            rintro e w77 ⟨rfl, hb⟩
            have HS0_ := (hb.cell (World.block_lt_of_cell? _ _ (hHeld.1))).trans (hHeld.1)
            have HS1_ := (hb.cell (World.block_lt_of_cell? _ _ (hHeld.2))).trans (hHeld.2)
            refine ⟨_, rfl, ?_⟩
            have n0_ := Aside0.mk (Kd.R_below zb13 hb)
            have n1_ := Aside0.mk (blk_below (g := gb154) (o := .cells #[.int .i64 0, .slice none 0 0, .string (⟨#[]⟩ : ByteArray)] 24 (0, 0)) zb4 hb)
            have n2_ := Aside0.mk (blk_below (g := gb164) (o := .cells #[.int .i64 t158, .slice (some ad168) t159.length co70, .string t160] 24 (0, 0)) zb18 hb)
            have n3_ := Aside0.mk (below_step zb5 hb)
            clear HO163
            clear BK154
            clear BK164
            clear HB
            have HO163 := n0_
            have BK154 := n1_
            have BK164 := n2_
            have HB := n3_
            clear n0_ n1_ n2_ n3_
            (try clear hb)
            (try clear hb2)
            (try clear hk)
            (try clear hi)
            refine hK.out _ _ ⟨HS0_, HS1_⟩ (fun hHeld => ?_)
            clear hK K
            refine norm_ (a' := ?_) ?_ ?_
            rotate_left
            ·show Act.put _ (some 66) _ = _
             simp only [Act.put, List.setIfInBounds_toArray, List.set_cons_zero, List.set_cons_succ, i64_w, i32_w]
             rfl
            refine pure_ (i := 11) (N := some 67) (v := ?_) (a' := ?_) #[true, true, true, true, true, true, true, true, true, true, true, true, false, false, false, false, false, false, false] rfl rfl (any_of HT_.out zb11) (fun _ _ _ h => h) (Or.inl ⟨by rfl, ?_⟩) ?_ ?_
            rotate_left
            ·intro w'
             go_simp
             first | with_reducible rfl | (rw [if_neg zb2])
            rotate_left
            ·simp only [Act.put, List.setIfInBounds_toArray, List.set_cons_zero, List.set_cons_succ, i64_w, i32_w]
             rfl
            refine pure_ (i := 12) (N := some 68) (v := ?_) (a' := ?_) #[true, true, true, true, true, true, true, true, true, true, true, true, true, false, false, false, false, false, false] rfl rfl (any_of HT_.out zb11) (fun _ _ _ h => h) (Or.inl ⟨by rfl, ?_⟩) ?_ ?_
            rotate_left
            ·intro w'
             go_simp
             first | with_reducible rfl | (rw [if_neg zb2])
            rotate_left
            ·simp only [Act.put, List.setIfInBounds_toArray, List.set_cons_zero, List.set_cons_succ, i64_w, i32_w]
             rfl
            refine pure_ (i := 13) (N := some 69) (v := ?_) (a' := ?_) #[true, true, true, true, true, true, true, true, true, true, true, true, true, true, false, false, false, false, false] rfl rfl (any_of HT_.out zb11) (fun _ _ _ h => h) (Or.inl ⟨by rfl, ?_⟩) ?_ ?_
            rotate_left
            ·intro w'
             go_simp
             first | with_reducible rfl | (rw [if_neg zb2])
            rotate_left
            ·simp only [Act.put, List.setIfInBounds_toArray, List.set_cons_zero, List.set_cons_succ, i64_w, i32_w]
             rfl
            refine pure_ (i := 14) (N := some 70) (v := ?_) (a' := ?_) #[true, true, true, true, true, true, true, true, true, true, true, true, true, true, true, false, false, false, false] rfl rfl (any_of HT_.out zb11) (fun _ _ _ h => h) (Or.inl ⟨by rfl, ?_⟩) ?_ ?_
            rotate_left
            ·intro w'
             go_simp
             first | with_reducible rfl | (rw [if_neg zb2])
            rotate_left
            ·simp only [Act.put, List.setIfInBounds_toArray, List.set_cons_zero, List.set_cons_succ, i64_w, i32_w]
             rfl
            refine pure_ (i := 15) (N := some 71) (v := ?_) (a' := ?_) #[true, true, true, true, true, true, true, true, true, true, true, true, true, true, true, true, false, false, false] rfl rfl (any_of HT_.out zb11) (fun _ _ _ h => h) (Or.inl ⟨by rfl, ?_⟩) ?_ ?_
            rotate_left
            ·intro w'
             go_simp
             first | with_reducible rfl | (rw [if_neg zb2])
            rotate_left
            ·simp only [Act.put, List.setIfInBounds_toArray, List.set_cons_zero, List.set_cons_succ, i64_w, i32_w]
             rfl
            refine pure_ (i := 16) (N := some 72) (v := ?_) (a' := ?_) #[true, true, true, true, true, true, true, true, true, true, true, true, true, true, true, true, true, false, false] rfl rfl (any_of HT_.out zb11) (fun _ _ _ h => h) (Or.inl ⟨by rfl, ?_⟩) ?_ ?_
            rotate_left
            ·intro w'
             go_simp
             first | with_reducible rfl | (rw [if_neg zb2])
            rotate_left
            ·simp only [Act.put, List.setIfInBounds_toArray, List.set_cons_zero, List.set_cons_succ, i64_w, i32_w]
             rfl
            refine pure_ (i := 17) (N := some 73) (v := ?_) (a' := ?_) #[true, true, true, true, true, true, true, true, true, true, true, true, true, true, true, true, true, true, false] rfl rfl (any_of HT_.out zb11) (fun _ _ _ h => h) (Or.inl ⟨by rfl, ?_⟩) ?_ ?_
            rotate_left
            ·intro w'
             go_simp
             first | with_reducible rfl | (rw [if_neg zb2])
            rotate_left
            ·simp only [Act.put, List.setIfInBounds_toArray, List.set_cons_zero, List.set_cons_succ, i64_w, i32_w]
             rfl
            refine pure_ (i := 18) (N := some 74) (v := ?_) (a' := ?_) #[true, true, true, true, true, true, true, true, true, true, true, true, true, true, true, true, true, true, true] rfl rfl (any_of HT_.out zb11) (fun _ _ _ h => h) (Or.inl ⟨by rfl, ?_⟩) ?_ ?_
            rotate_left
            ·intro w'
             go_simp
             first | with_reducible rfl | (rw [if_neg zb2])
            rotate_left
            ·simp only [Act.put, List.setIfInBounds_toArray, List.set_cons_zero, List.set_cons_succ, i64_w, i32_w]
             rfl
            refine done_ (done_of HT_.out zb11) ?_
            have q78 : ((ji42) : Int) ≤ ((t159.length : Int) : Int) := of_decide_eq_true zb12
            obtain ⟨i078, hi078, _, hsz78, _⟩ := info_parts info35
            have hcut78 := cut_to (P := Tryd.prog) 22 35 .i64 Tryd.underlying22 hi078 (some ad168) t159.length co70 (ji42) (of_decide_eq_true zb12) q78 (Kd.R_reads' HO163.out).2.1
            have hr78 := Kd.R_take (m := ((ji42) : Int).toNat) HO163.out zb26
            have hy78 : y170.length = ((ji42) : Int).toNat := (by rw [Ny170.out, List.length_take]; omega)
            rw [← Ny170.out] at hr78
            rw [← hy78] at hr78 hcut78
            clear hy78 hi078 hsz78 HO163
            have HO172 := Aside0.mk hr78
            clear hr78
            replace q78 := eq_true q78
            have hcz79_0 : w77.cell? ⟨gb164, 0, none⟩ = some (.int .i64 t158) := (blk_cell BK164.out 0).trans rfl
            have hcz79_1 : w77.cell? ⟨gb164, 1, none⟩ = some (.slice (some ad168) t159.length co70) := (blk_cell BK164.out 1).trans rfl
            have hcz79_2 : w77.cell? ⟨gb164, 2, none⟩ = some (.string t160) := (blk_cell BK164.out 2).trans rfl
            have hfz79_0 := blk_frozen BK164.out 0
            have hfz79_1 := blk_frozen BK164.out 1
            have hfz79_2 := blk_frozen BK164.out 2
            have hcz80_0 : w77.cell? ⟨gb154, 0, none⟩ = some (.int .i64 0) := (blk_cell BK154.out 0).trans rfl
            have hcz80_1 : w77.cell? ⟨gb154, 1, none⟩ = some (.slice none 0 0) := (blk_cell BK154.out 1).trans rfl
            have hcz80_2 : w77.cell? ⟨gb154, 2, none⟩ = some (.string (⟨#[]⟩ : ByteArray)) := (blk_cell BK154.out 2).trans rfl
            have hfz80_0 := blk_frozen BK154.out 0
            have hfz80_1 := blk_frozen BK154.out 1
            have hfz80_2 := blk_frozen BK154.out 2
            try go_wp2
            refine bodyPost_ret (results_ct rfl _ _ gb154 24 #[.int .i64 t158, .slice (some ad168) y170.length co70, .string t160] (0, 0) _ rfl (by (with_reducible repeat (first | refine blk_drewN ?_ _ | refine blk_drew ?_ | refine blk_alloc ?_ _)); refine blk_put (cs := #[.int .i64 t158, .slice (some ad168) y170.length co70, .string (⟨#[]⟩ : ByteArray)]) ?_ 2 _ rfl; (with_reducible repeat (first | refine blk_drewN ?_ _ | refine blk_drew ?_ | refine blk_alloc ?_ _)); refine blk_put (cs := #[.int .i64 t158, .slice none 0 0, .string (⟨#[]⟩ : ByteArray)]) ?_ 1 _ rfl; (with_reducible repeat (first | refine blk_drewN ?_ _ | refine blk_drew ?_ | refine blk_alloc ?_ _)); refine blk_put (cs := #[.int .i64 0, .slice none 0 0, .string (⟨#[]⟩ : ByteArray)]) ?_ 0 _ rfl; (with_reducible repeat (first | refine blk_drewN ?_ _ | refine blk_drew ?_ | refine blk_alloc ?_ _)); refine blk_far ?_ NB154_164.out _; (with_reducible repeat (first | refine blk_drewN ?_ _ | refine blk_drew ?_ | refine blk_alloc ?_ _)); exact BK154.out) Tryd.underlying24 rfl zb11) rfl ?_
            exact ⟨_, by first | rfl | (simp [errW_none, errW_some, bne_nil_] <;> rfl) | (simp only [← hji42]; first | rfl | (simp [errW_none, errW_some, bne_nil_] <;> rfl)) | (simp [*, errW_none, errW_some] <;> rfl), by (with_reducible repeat (first | apply Kd.R_alloc | apply Kd.R_drewN | apply Kd.R_drew)); exact Kd.R_mono (Kd.R_far (p := ⟨gb154, 2, none⟩) (Kd.R_far (p := ⟨gb154, 1, none⟩) (Kd.R_far (p := ⟨gb154, 0, none⟩) (Kd.R_far (p := ⟨gb164, 1, none⟩) (Kd.R_types (Kd.R_types HO172.out BK164.out zb32) BK154.out zb32) (fun _ hk => hk.1.2) (.slice (some ad168) y170.length co70)) (fun _ hk => hk.2) (.int .i64 t158)) (fun _ hk => hk.2) (.slice (some ad168) y170.length co70)) (fun _ hk => hk.2) (.string t160)) (fun _ hk => trivial), zb5⟩
           ·rw [if_neg c68] at H
            exact absurd H (by simp)
        ·rw [if_neg c44] at H
         exact absurd H (by simp)
       ·rw [if_neg c43] at H
        exact absurd H (by simp)
      ·rw [if_neg c41] at H
       have c41b0 : (t167 == 1) = false := beq_eq_false_iff_ne.mpr c41
       have c41b1 : (t167 != 1) = true := bne_iff_ne.mpr c41
       simp only [Option.some.injEq, Prod.mk.injEq] at H
       obtain ⟨rfl, rfl, rfl, rfl⟩ := H
       try go_wp2_with (first | ((with_reducible refine gate_callee (f := 20) rfl ?_); refine goesL_ (some 30) rfl rfl Tryd.func20 zb11 rfl #[.string t156] rfl zb1 ?_; (with_reducible refine (field_Parse.calls t156 t159 t160 t161 _ ?side1 A11.out).mono ?_); (case side1 => exact Glob.below hGA.out zb3); rintro e w81 ⟨v162, rfl, ho0, hb⟩; refine ⟨_, rfl, ?_⟩; have n0_ := Aside0.mk (Kd.R_lower ho0 (below_size zb3)); have n1_ := Aside0.mk (blk_below (g := gb154) (o := .cells #[.int .i64 0, .slice none 0 0, .string (⟨#[]⟩ : ByteArray)] 24 (0, 0)) zb4 hb); have n2_ := Aside0.mk (below_step zb3 hb); clear BK154; clear HB; have HO163 := n0_; have BK154 := n1_; have HB := n2_; clear n0_ n1_ n2_; (try clear hb); (try clear hb2); (try clear hk); (try clear hi); (try clear ho0); obtain ⟨Ao82, co82, eo82⟩ := Kd.R_slice HO163.out; subst eo82) | ((with_reducible refine gate_dst (N := 11) rfl ?_); (try (refine gate_guard (by rfl) ?_; dsimp only)); refine box_event ?hg (N := 11) ?hd (cs := #[.int .i64 0, .slice none 0 0, .string (⟨#[]⟩ : ByteArray)]) (t := 24) ?hr ?_; (case hd => rfl); (case hg => rfl); (case hr => first | (go_simp; done) | (go_simp; rfl)); intro gb164 hg w83 hbox hb; have n0_ := Aside0.mk (Kd.R_below zb13 hb); have n1_ := Aside0.mk (blk_below (g := gb154) (o := .cells #[.int .i64 0, .slice none 0 0, .string (⟨#[]⟩ : ByteArray)] 24 (0, 0)) zb4 hb); have n2_ := Aside0.mk (below_step zb3 hb); have n3_ := Aside0.mk (hbox); have n4_ := Aside0.mk ((by rw [hg]; exact (below_size zb3) : w.heap.size ≤ gb164)); have n5_ := Aside0.mk ((by rw [hg]; exact (below_size zb3) : w.heap.size ≤ gb164)); have n6_ := Aside0.mk ((by rw [hg]; exact Nat.ne_of_lt (blk_lt (g := gb154) (o := .cells #[.int .i64 0, .slice none 0 0, .string (⟨#[]⟩ : ByteArray)] 24 (0, 0)) zb4) : gb154 ≠ gb164)); have n7_ := Aside0.mk ((by rw [hg]; exact Nat.ne_of_gt (blk_lt (g := gb154) (o := .cells #[.int .i64 0, .slice none 0 0, .string (⟨#[]⟩ : ByteArray)] 24 (0, 0)) zb4) : gb164 ≠ gb154)); clear HO163; clear BK154; clear HB; have HO163 := n0_; have BK154 := n1_; have HB := n2_; have BK164 := n3_; have GW164 := n4_; have GE164 := n5_; have NB154_164 := n6_; have NB164_154 := n7_; clear n0_ n1_ n2_ n3_ n4_ n5_ n6_ n7_; clear hb hbox hg; have hnb84 := NB164_154.out; have hnc84 := NB154_164.out; have hcz85_0 : w83.cell? ⟨gb164, 0, none⟩ = some (.int .i64 0) := (blk_cell BK164.out 0).trans rfl; have hcz85_1 : w83.cell? ⟨gb164, 1, none⟩ = some (.slice none 0 0) := (blk_cell BK164.out 1).trans rfl; have hcz85_2 : w83.cell? ⟨gb164, 2, none⟩ = some (.string (⟨#[]⟩ : ByteArray)) := (blk_cell BK164.out 2).trans rfl; have hfz85_0 := blk_frozen BK164.out 0; have hfz85_1 := blk_frozen BK164.out 1; have hfz85_2 := blk_frozen BK164.out 2) | ((with_reducible refine gate_callee (f := 12) rfl ?_); refine goesL_ (some 43) rfl rfl Tryd.func12 zb11 rfl #[.int .i64 t158] rfl zb1 ?_; (with_reducible refine (response_bare.calls t158 false _ A13.out).mono ?_); rintro e w' ⟨rfl, ⟨nd, rfl⟩⟩; refine ⟨_, rfl, ?_⟩))
       have n0_ : Aside0 (Kd.R k35 35 (((w83.setCell ⟨gb164, 0, none⟩ (.int .i64 t158)).setCell ⟨gb164, 1, none⟩ (.slice Ao82 t159.length co82)).setCell ⟨gb164, 2, none⟩ (.string t160)) w.heap.size (fun _ => True) (.slice Ao82 t159.length co82) t159) := ⟨by (with_reducible repeat (first | apply Kd.R_alloc | apply Kd.R_drewN | apply Kd.R_drew)); exact Kd.R_mono (Kd.R_far (p := ⟨gb164, 2, none⟩) (Kd.R_far (p := ⟨gb164, 1, none⟩) (Kd.R_far (p := ⟨gb164, 0, none⟩) (Kd.R_types HO163.out BK164.out zb32) (fun _ hk => hk.2) (.int .i64 t158)) (fun _ hk => hk.2) (.slice Ao82 t159.length co82)) (fun _ hk => hk.2) (.string t160)) (fun _ hk => trivial)⟩
       have n1_ : Aside0 ((((w83.setCell ⟨gb164, 0, none⟩ (.int .i64 t158)).setCell ⟨gb164, 1, none⟩ (.slice Ao82 t159.length co82)).setCell ⟨gb164, 2, none⟩ (.string t160)).heap[gb154]? = some (.cells #[.int .i64 0, .slice none 0 0, .string (⟨#[]⟩ : ByteArray)] 24 (0, 0))) := ⟨by (with_reducible repeat (first | refine blk_drewN ?_ _ | refine blk_drew ?_ | refine blk_alloc ?_ _)); refine blk_far ?_ NB154_164.out _; (with_reducible repeat (first | refine blk_drewN ?_ _ | refine blk_drew ?_ | refine blk_alloc ?_ _)); refine blk_far ?_ NB154_164.out _; (with_reducible repeat (first | refine blk_drewN ?_ _ | refine blk_drew ?_ | refine blk_alloc ?_ _)); refine blk_far ?_ NB154_164.out _; (with_reducible repeat (first | refine blk_drewN ?_ _ | refine blk_drew ?_ | refine blk_alloc ?_ _)); exact BK154.out⟩
       have n2_ : Aside0 ((((w83.setCell ⟨gb164, 0, none⟩ (.int .i64 t158)).setCell ⟨gb164, 1, none⟩ (.slice Ao82 t159.length co82)).setCell ⟨gb164, 2, none⟩ (.string t160)).heap[gb164]? = some (.cells #[.int .i64 t158, .slice Ao82 t159.length co82, .string t160] 24 (0, 0))) := ⟨by (with_reducible repeat (first | refine blk_drewN ?_ _ | refine blk_drew ?_ | refine blk_alloc ?_ _)); refine blk_put (cs := #[.int .i64 t158, .slice Ao82 t159.length co82, .string (⟨#[]⟩ : ByteArray)]) ?_ 2 _ rfl; (with_reducible repeat (first | refine blk_drewN ?_ _ | refine blk_drew ?_ | refine blk_alloc ?_ _)); refine blk_put (cs := #[.int .i64 t158, .slice none 0 0, .string (⟨#[]⟩ : ByteArray)]) ?_ 1 _ rfl; (with_reducible repeat (first | refine blk_drewN ?_ _ | refine blk_drew ?_ | refine blk_alloc ?_ _)); refine blk_put (cs := #[.int .i64 0, .slice none 0 0, .string (⟨#[]⟩ : ByteArray)]) ?_ 0 _ rfl; (with_reducible repeat (first | refine blk_drewN ?_ _ | refine blk_drew ?_ | refine blk_alloc ?_ _)); exact BK164.out⟩
       have n3_ : Aside0 (Below w.heap.size w (((w83.setCell ⟨gb164, 0, none⟩ (.int .i64 t158)).setCell ⟨gb164, 1, none⟩ (.slice Ao82 t159.length co82)).setCell ⟨gb164, 2, none⟩ (.string t160))) := ⟨by repeat (first | (with_reducible first | exact HB.out | apply below_alloc | apply pw_below_drewN | apply below_drew1 | refine below_set ?_ GE154.out | refine below_set ?_ GE164.out) | exact HB.out)⟩
       (try clear HO163)
       (try clear BK154)
       (try clear BK164)
       (try clear HB)
       generalize (((w83.setCell ⟨gb164, 0, none⟩ (.int .i64 t158)).setCell ⟨gb164, 1, none⟩ (.slice Ao82 t159.length co82)).setCell ⟨gb164, 2, none⟩ (.string t160)) = w86 at n0_ n1_ n2_ n3_ ⊢
       have HO163 := n0_
       have BK154 := n1_
       have BK164 := n2_
       have HB := n3_
       clear n0_ n1_ n2_ n3_
       (try (rw [drewN_self w86]; generalize hq_ : World.drewN w86 _ = w86; have n0_ : Aside0 (Kd.R k35 35 w86 w.heap.size (fun _ => True) (.slice Ao82 t159.length co82) t159) := ⟨by rw [← hq_]; exact zb13⟩; have n1_ : Aside0 (w86.heap[gb154]? = some (.cells #[.int .i64 0, .slice none 0 0, .string (⟨#[]⟩ : ByteArray)] 24 (0, 0))) := ⟨by rw [← hq_]; exact zb4⟩; have n2_ : Aside0 (w86.heap[gb164]? = some (.cells #[.int .i64 t158, .slice Ao82 t159.length co82, .string t160] 24 (0, 0))) := ⟨by rw [← hq_]; exact zb18⟩; have n3_ : Aside0 (Below w.heap.size w w86) := ⟨by rw [← hq_]; exact zb5⟩; clear HO163 BK154 BK164 HB hq_; have HO163 := n0_; have BK154 := n1_; have BK164 := n2_; have HB := n3_; clear n0_ n1_ n2_ n3_))
       have n0_ := Aside0.mk (Kd.R_drew HO163.out)
       have n1_ := Aside0.mk (blk_drew BK154.out)
       have n2_ := Aside0.mk (blk_drew BK164.out)
       have n3_ := Aside0.mk (below_drew1 HB.out)
       clear HO163
       clear BK154
       clear BK164
       clear HB
       have HO163 := n0_
       have BK154 := n1_
       have BK164 := n2_
       have HB := n3_
       clear n0_ n1_ n2_ n3_
       refine start_ (n := 19) (S := fun w' => True) (ds := []) #[false, false, false, false, false, false, false, false, false, false, false, false, false, false, false, false, false, false, false] zb11 rfl rfl trivial (fun hHeld => ?_); refine with_tabW response_Parse.tab14 response_Parse.bits14 (fun HT_ HW_ => ?_)
       skip
       refine pure_ (i := 0) (N := some 56) (v := ?_) (a' := ?_) #[true, false, false, false, false, false, false, false, false, false, false, false, false, false, false, false, false, false, false] rfl rfl (any_of HT_.out zb11) (fun _ _ _ h => h) (Or.inl ⟨by rfl, ?_⟩) ?_ ?_
       rotate_left
       ·intro w'
        go_simp
        first | with_reducible rfl | (rw [if_neg zb2])
       rotate_left
       ·simp only [Act.put, List.setIfInBounds_toArray, List.set_cons_zero, List.set_cons_succ, i64_w, i32_w]
        rfl
       refine one_ (i := 1) (N := some 57) #[true, true, false, false, false, false, false, false, false, false, false, false, false, false, false, false, false, false, false] rfl rfl (one_of HT_.out zb11) zb32 (fun K hK => ?_)
       refine goes_ Tryd.func13 zb11 rfl #[.slice Ao82 t159.length co82] (by rfl) rfl rfl zb1 ?_
       with_reducible refine (response_lengths.calls kj3 _ _ t159 t167 _ ?side1 ?side2 A40.out).mono ?_
       (case side1 => repeat (first | exact (Kd.R_reads' HO163.out).2.2 | (with_reducible refine Kd.C_alloc ?_ _) | (with_reducible refine Kd.C_drewN ?_ _) | (with_reducible refine Kd.C_drew ?_)))
       (case side2 => exact (Kd.R_reads' HO163.out).2.1)
       rintro e w88 ⟨rfl, hb⟩
       refine ⟨_, rfl, ?_⟩
       have n0_ := Aside0.mk (Kd.R_below zb13 hb)
       have n1_ := Aside0.mk (blk_below (g := gb154) (o := .cells #[.int .i64 0, .slice none 0 0, .string (⟨#[]⟩ : ByteArray)] 24 (0, 0)) zb4 hb)
       have n2_ := Aside0.mk (blk_below (g := gb164) (o := .cells #[.int .i64 t158, .slice Ao82 t159.length co82, .string t160] 24 (0, 0)) zb18 hb)
       have n3_ := Aside0.mk (below_step zb5 hb)
       clear HO163
       clear BK154
       clear BK164
       clear HB
       have HO163 := n0_
       have BK154 := n1_
       have BK164 := n2_
       have HB := n3_
       clear n0_ n1_ n2_ n3_
       (try clear hb)
       (try clear hb2)
       (try clear hk)
       (try clear hi)
       refine hK.out _ _ trivial (fun hHeld => ?_)
       clear hK K
       refine norm_ (a' := ?_) ?_ ?_
       rotate_left
       ·show Act.put _ (some 57) _ = _
        simp only [Act.put, List.setIfInBounds_toArray, List.set_cons_zero, List.set_cons_succ, i64_w, i32_w]
        rfl
       refine pure_ (i := 2) (N := some 58) (v := ?_) (a' := ?_) #[true, true, true, false, false, false, false, false, false, false, false, false, false, false, false, false, false, false, false] rfl rfl (any_of HT_.out zb11) (fun _ _ _ h => h) (Or.inl ⟨by rfl, ?_⟩) ?_ ?_
       rotate_left
       ·intro w'
        go_simp
        first | with_reducible rfl | (rw [if_neg zb2])
       rotate_left
       ·simp only [Act.put, List.setIfInBounds_toArray, List.set_cons_zero, List.set_cons_succ, i64_w, i32_w]
        rfl
       refine pure_ (i := 3) (N := some 59) (v := ?_) (a' := ?_) #[true, true, true, true, false, false, false, false, false, false, false, false, false, false, false, false, false, false, false] rfl rfl (any_of HT_.out zb11) (fun _ _ _ h => h) (Or.inl ⟨by rfl, ?_⟩) ?_ ?_
       rotate_left
       ·intro w'
        go_simp
        first | with_reducible rfl | (rw [if_neg zb2])
       rotate_left
       ·simp only [Act.put, List.setIfInBounds_toArray, List.set_cons_zero, List.set_cons_succ, i64_w, i32_w]
        rfl
       refine pure_ (i := 4) (N := some 60) (v := undef) (a' := ?_) #[true, true, true, true, true, false, false, false, false, false, false, false, false, false, false, false, false, false, false] rfl rfl (any_of HT_.out zb11) (fun _ _ _ h => h) (Or.inr ⟨by rfl, rfl⟩) ?_ ?_
       rotate_left
       ·simp only [Act.put, List.setIfInBounds_toArray, List.set_cons_zero, List.set_cons_succ, i64_w, i32_w]
        rfl
       refine pure_ (i := 5) (N := some 61) (v := undef) (a' := ?_) #[true, true, true, true, true, true, false, false, false, false, false, false, false, false, false, false, false, false, false] rfl rfl (any_of HT_.out zb11) (fun _ _ _ h => h) (Or.inr ⟨by rfl, rfl⟩) ?_ ?_
       rotate_left
       ·simp only [Act.put, List.setIfInBounds_toArray, List.set_cons_zero, List.set_cons_succ, i64_w, i32_w]
        rfl
       refine pure_ (i := 6) (N := some 62) (v := undef) (a' := ?_) #[true, true, true, true, true, true, true, false, false, false, false, false, false, false, false, false, false, false, false] rfl rfl (any_of HT_.out zb11) (fun _ _ _ h => h) (Or.inr ⟨by rfl, rfl⟩) ?_ ?_
       rotate_left
       ·simp only [Act.put, List.setIfInBounds_toArray, List.set_cons_zero, List.set_cons_succ, i64_w, i32_w]
        rfl
       refine pure_ (i := 7) (N := some 63) (v := undef) (a' := ?_) #[true, true, true, true, true, true, true, true, false, false, false, false, false, false, false, false, false, false, false] rfl rfl (any_of HT_.out zb11) (fun _ _ _ h => h) (Or.inr ⟨by rfl, rfl⟩) ?_ ?_
       rotate_left
       ·simp only [Act.put, List.setIfInBounds_toArray, List.set_cons_zero, List.set_cons_succ, i64_w, i32_w]
        rfl
       refine pure_ (i := 8) (N := some 64) (v := undef) (a' := ?_) #[true, true, true, true, true, true, true, true, true, false, false, false, false, false, false, false, false, false, false] rfl rfl (any_of HT_.out zb11) (fun _ _ _ h => h) (Or.inr ⟨by rfl, rfl⟩) ?_ ?_
       rotate_left
       ·simp only [Act.put, List.setIfInBounds_toArray, List.set_cons_zero, List.set_cons_succ, i64_w, i32_w]
        rfl
       refine pure_ (i := 9) (N := some 65) (v := undef) (a' := ?_) #[true, true, true, true, true, true, true, true, true, true, false, false, false, false, false, false, false, false, false] rfl rfl (any_of HT_.out zb11) (fun _ _ _ h => h) (Or.inr ⟨by rfl, rfl⟩) ?_ ?_
       rotate_left
       ·simp only [Act.put, List.setIfInBounds_toArray, List.set_cons_zero, List.set_cons_succ, i64_w, i32_w]
        rfl
       refine pure_ (i := 10) (N := some 66) (v := undef) (a' := ?_) #[true, true, true, true, true, true, true, true, true, true, true, false, false, false, false, false, false, false, false] rfl rfl (any_of HT_.out zb11) (fun _ _ _ h => h) (Or.inr ⟨by rfl, rfl⟩) ?_ ?_
       rotate_left
       ·simp only [Act.put, List.setIfInBounds_toArray, List.set_cons_zero, List.set_cons_succ, i64_w, i32_w]
        rfl
       refine pure_ (i := 11) (N := some 67) (v := undef) (a' := ?_) #[true, true, true, true, true, true, true, true, true, true, true, true, false, false, false, false, false, false, false] rfl rfl (any_of HT_.out zb11) (fun _ _ _ h => h) (Or.inr ⟨by rfl, rfl⟩) ?_ ?_
       rotate_left
       ·simp only [Act.put, List.setIfInBounds_toArray, List.set_cons_zero, List.set_cons_succ, i64_w, i32_w]
        rfl
       refine pure_ (i := 12) (N := some 68) (v := undef) (a' := ?_) #[true, true, true, true, true, true, true, true, true, true, true, true, true, false, false, false, false, false, false] rfl rfl (any_of HT_.out zb11) (fun _ _ _ h => h) (Or.inr ⟨by rfl, rfl⟩) ?_ ?_
       rotate_left
       ·simp only [Act.put, List.setIfInBounds_toArray, List.set_cons_zero, List.set_cons_succ, i64_w, i32_w]
        rfl
       refine pure_ (i := 13) (N := some 69) (v := ?_) (a' := ?_) #[true, true, true, true, true, true, true, true, true, true, true, true, true, true, false, false, false, false, false] rfl rfl (any_of HT_.out zb11) (fun _ _ _ h => h) (Or.inl ⟨by rfl, ?_⟩) ?_ ?_
       rotate_left
       ·intro w'
        go_simp
        first | with_reducible rfl | (rw [if_neg zb2])
       rotate_left
       ·simp only [Act.put, List.setIfInBounds_toArray, List.set_cons_zero, List.set_cons_succ, i64_w, i32_w]
        rfl
       refine pure_ (i := 14) (N := some 70) (v := ?_) (a' := ?_) #[true, true, true, true, true, true, true, true, true, true, true, true, true, true, true, false, false, false, false] rfl rfl (any_of HT_.out zb11) (fun _ _ _ h => h) (Or.inl ⟨by rfl, ?_⟩) ?_ ?_
       rotate_left
       ·intro w'
        go_simp
        first | with_reducible rfl | (rw [if_neg zb2])
       rotate_left
       ·simp only [Act.put, List.setIfInBounds_toArray, List.set_cons_zero, List.set_cons_succ, i64_w, i32_w]
        rfl
       refine pure_ (i := 15) (N := some 71) (v := undef) (a' := ?_) #[true, true, true, true, true, true, true, true, true, true, true, true, true, true, true, true, false, false, false] rfl rfl (any_of HT_.out zb11) (fun _ _ _ h => h) (Or.inr ⟨by rfl, rfl⟩) ?_ ?_
       rotate_left
       ·simp only [Act.put, List.setIfInBounds_toArray, List.set_cons_zero, List.set_cons_succ, i64_w, i32_w]
        rfl
       refine pure_ (i := 16) (N := some 72) (v := undef) (a' := ?_) #[true, true, true, true, true, true, true, true, true, true, true, true, true, true, true, true, true, false, false] rfl rfl (any_of HT_.out zb11) (fun _ _ _ h => h) (Or.inr ⟨by rfl, rfl⟩) ?_ ?_
       rotate_left
       ·simp only [Act.put, List.setIfInBounds_toArray, List.set_cons_zero, List.set_cons_succ, i64_w, i32_w]
        rfl
       refine pure_ (i := 17) (N := some 73) (v := undef) (a' := ?_) #[true, true, true, true, true, true, true, true, true, true, true, true, true, true, true, true, true, true, false] rfl rfl (any_of HT_.out zb11) (fun _ _ _ h => h) (Or.inr ⟨by rfl, rfl⟩) ?_ ?_
       rotate_left
       ·simp only [Act.put, List.setIfInBounds_toArray, List.set_cons_zero, List.set_cons_succ, i64_w, i32_w]
        rfl
       refine pure_ (i := 18) (N := some 74) (v := ?_) (a' := ?_) #[true, true, true, true, true, true, true, true, true, true, true, true, true, true, true, true, true, true, true] rfl rfl (any_of HT_.out zb11) (fun _ _ _ h => h) (Or.inl ⟨by rfl, ?_⟩) ?_ ?_
       rotate_left
       ·intro w'
        go_simp
        first | with_reducible rfl | (rw [if_neg zb2])
       rotate_left
       ·simp only [Act.put, List.setIfInBounds_toArray, List.set_cons_zero, List.set_cons_succ, i64_w, i32_w]
        rfl
       refine done_ (done_of HT_.out zb11) ?_
       have hcz89_0 : w88.cell? ⟨gb154, 0, none⟩ = some (.int .i64 0) := (blk_cell BK154.out 0).trans rfl
       have hcz89_1 : w88.cell? ⟨gb154, 1, none⟩ = some (.slice none 0 0) := (blk_cell BK154.out 1).trans rfl
       have hcz89_2 : w88.cell? ⟨gb154, 2, none⟩ = some (.string (⟨#[]⟩ : ByteArray)) := (blk_cell BK154.out 2).trans rfl
       have hfz89_0 := blk_frozen BK154.out 0
       have hfz89_1 := blk_frozen BK154.out 1
       have hfz89_2 := blk_frozen BK154.out 2
       try go_wp2
       refine bodyPost_ret (results_ct rfl _ _ gb154 24 #[.int .i64 0, .slice none 0 0, .string (⟨#[]⟩ : ByteArray)] (0, 0) _ rfl zb6 Tryd.underlying24 rfl zb11) rfl ?_
       exact ⟨_, by first | rfl | (simp [errW_none, errW_some, bne_nil_] <;> rfl) | (simp [*, errW_none, errW_some] <;> rfl), by first | exact Kd.R_nil _ _ _ _ _ | exact Kd.N_nil _ _ _ _ _ | exact Kd.V_nil _ _ _ _ _ | exact Kd.Q_nil _ _ _ _ _ | exact Kd.S_nil _ _ _ _ _, zb5⟩
    ·rw [if_neg c12] at H
     have c12b0 : (t161 == 0) = false := beq_eq_false_iff_ne.mpr c12
     have c12b1 : (t161 != 0) = true := bne_iff_ne.mpr c12
     simp only [Option.some.injEq, Prod.mk.injEq] at H
     obtain ⟨rfl, rfl, rfl, rfl⟩ := H
     go_wp2_with (first | ((with_reducible refine gate_callee (f := 20) rfl ?_); refine goesL_ (some 30) rfl rfl Tryd.func20 zb11 rfl #[.string t156] rfl zb1 ?_; (with_reducible refine (field_Parse.calls t156 t159 t160 t161 _ ?side1 A11.out).mono ?_); (case side1 => exact Glob.below hGA.out zb3); rintro e w90 ⟨v162, rfl, ho0, hb⟩; refine ⟨_, rfl, ?_⟩; have n0_ := Aside0.mk (Kd.R_lower ho0 (below_size zb3)); have n1_ := Aside0.mk (blk_below (g := gb154) (o := .cells #[.int .i64 0, .slice none 0 0, .string (⟨#[]⟩ : ByteArray)] 24 (0, 0)) zb4 hb); have n2_ := Aside0.mk (below_step zb3 hb); clear BK154; clear HB; have HO163 := n0_; have BK154 := n1_; have HB := n2_; clear n0_ n1_ n2_; (try clear hb); (try clear hb2); (try clear hk); (try clear hi); (try clear ho0); have hcz91_0 : w90.cell? ⟨gb154, 0, none⟩ = some (.int .i64 0) := (blk_cell BK154.out 0).trans rfl; have hcz91_1 : w90.cell? ⟨gb154, 1, none⟩ = some (.slice none 0 0) := (blk_cell BK154.out 1).trans rfl; have hcz91_2 : w90.cell? ⟨gb154, 2, none⟩ = some (.string (⟨#[]⟩ : ByteArray)) := (blk_cell BK154.out 2).trans rfl; have hfz91_0 := blk_frozen BK154.out 0; have hfz91_1 := blk_frozen BK154.out 1; have hfz91_2 := blk_frozen BK154.out 2))
     refine bodyPost_ret (results_ct rfl _ _ gb154 24 #[.int .i64 0, .slice none 0 0, .string (⟨#[]⟩ : ByteArray)] (0, 0) _ rfl zb6 Tryd.underlying24 rfl zb11) rfl ?_
     exact ⟨_, by first | rfl | (simp [errW_none, errW_some, bne_nil_] <;> rfl) | (simp [*, errW_none, errW_some] <;> rfl), by first | exact Kd.R_nil _ _ _ _ _ | exact Kd.N_nil _ _ _ _ _ | exact Kd.V_nil _ _ _ _ _ | exact Kd.Q_nil _ _ _ _ _ | exact Kd.S_nil _ _ _ _ _, zb3⟩
end Go.Proofs.YtaopopnlnohnpaaDoor.P
/- Obld -/
namespace Go.Proofs.YtaopopnlnohnpaaDoor.O
open Go.RowKit Go.Proofs.YtaopopnlnohnpaaDoorW.PrintWords Go.Proofs.YtaopopnlnohnpaaDoorW.PrintLast Go.Proofs.YtaopopnlnohnpaaDoorW.PrintMore Go.Proofs.YtaopopnlnohnpaaDoor.P Go.Proofs.YtaopopnlnohnpaaDoor.B
set_option linter.unusedVariables false
set_option linter.unusedSimpArgs false
theorem cells_len (s : ByteArray) : (Lib.byteCells s.data.toList).length = s.size := by rw [Lib.byteCells_length, data_length]
theorem cells_append (s t : ByteArray) : Lib.byteCells s.data.toList ++ Lib.strCells t = Lib.byteCells (s ++ t).data.toList := by
  simp [Lib.byteCells, Lib.strCells, ByteArray.data_append]
def Builder_WriteString.f (s0 a1 : ByteArray) : Option (Int × Option Int × ByteArray) := if s0.size + a1.size ≤ 140737488355328 then some ((a1.size : Int), none, s0 ++ a1) else none
theorem Builder_WriteString.calls (g : Nat) (s0_0 : ByteArray) (a1 : ByteArray) (r1 : Int) (r2 : Option Int) (r3 : ByteArray) (w0 w : World) (hI : IsS56 w0 w g s0_0) (hB : Below w0.heap.size w0 w) (h : Builder_WriteString.f s0_0 a1 = some (r1, r2, r3)) :
    Calls Tryd.prog 26 #[.pointer (some ⟨g, 0, none⟩), .string a1] w fun e w' => e = .returned (.tuple #[.int .i64 r1, errW r2]) ∧ IsS56 w0 w' g r3 ∧ Below w0.heap.size w0 w' ∧ KeepB 5 w w' g := by
  unfold Builder_WriteString.f at h
  split at h
  case isFalse => exact absurd h (by simp)
  rename_i hb
  obtain ⟨rfl, rfl, rfl⟩ : (a1.size : Int) = r1 ∧ none = r2 ∧ s0_0 ++ a1 = r3 := by simpa using h
  refine (Tryd.Builder_WriteString_k w0.heap.size g _ a1 w hI (by rw [cells_len]; exact hb) hB.size).mono ?_
  rintro e w' ⟨rfl, h1, h2, h3⟩
  rw [cells_append] at h1
  exact ⟨rfl, .inr h1, hB.trans h2, ⟨h3⟩⟩
def Builder_String.f (s0 : ByteArray) : Option (ByteArray × ByteArray) := some (s0, s0)
theorem Builder_String.calls (g : Nat) (s0_0 : ByteArray) (r1 : ByteArray) (r2 : ByteArray) (w0 w : World) (hI : IsS56 w0 w g s0_0) (hB : Below w0.heap.size w0 w) (h : Builder_String.f s0_0 = some (r1, r2)) :
    Calls Tryd.prog 28 #[.pointer (some ⟨g, 0, none⟩)] w fun e w' => e = .returned (.string r1) ∧ IsS56 w0 w' g r2 ∧ Below w0.heap.size w0 w' ∧ KeepB 5 w w' g := by
  obtain ⟨rfl, rfl⟩ : s0_0 = r1 ∧ s0_0 = r2 := by simpa [Builder_String.f] using h
  refine (Tryd.Builder_String_any_k w0.heap.size g s0_0.data.toList w hI hB.size).mono ?_
  rintro e w' ⟨rfl, h1, h2, h3⟩
  exact ⟨rfl, h1, hB.trans h2, ⟨h3⟩⟩
def Builder_Len.f (s0 : ByteArray) : Option (Int × ByteArray) := some ((s0.size : Int), s0)
theorem Builder_Len.calls (g : Nat) (s0_0 : ByteArray) (r1 : Int) (r2 : ByteArray) (w0 w : World) (hI : IsS56 w0 w g s0_0) (hB : Below w0.heap.size w0 w) (h : Builder_Len.f s0_0 = some (r1, r2)) :
    Calls Tryd.prog 27 #[.pointer (some ⟨g, 0, none⟩)] w fun e w' => e = .returned (.int .i64 r1) ∧ IsS56 w0 w' g r2 ∧ Below w0.heap.size w0 w' ∧ KeepB 5 w w' g := by
  obtain ⟨rfl, rfl⟩ : (s0_0.size : Int) = r1 ∧ s0_0 = r2 := by simpa [Builder_Len.f] using h
  refine (Tryd.Builder_Len_f w0.heap.size g _ w hI).mono ?_
  rintro e w' ⟨rfl, rfl⟩
  rw [cells_len]
  exact ⟨rfl, hI, hB, ⟨by first | exact Lib.OthersKept.refl _ _ _ | exact ⟨fun _ _ h _ _ => h⟩ | (intro k o hk _ _; exact hk)⟩⟩
end Go.Proofs.YtaopopnlnohnpaaDoor.O
/- Px7 -/
namespace Go.Proofs.YtaopopnlnohnpaaDoor.P
open Go.Proofs.YtaopopnlnohnpaaDoor.B
open Go.RowKit Go.Proofs.YtaopopnlnohnpaaDoorW.PrintWords Go.Proofs.YtaopopnlnohnpaaDoorW.PrintLast Go.Proofs.YtaopopnlnohnpaaDoorW.PrintMore
attribute [local go_sem] str_leq str_gtr str_geq max2_int min2_int max_two min_two max_three min_three max_four min_four
set_option linter.unusedVariables false
set_option linter.unusedSimpArgs false
open Go.Proofs.YtaopopnlnohnpaaDoor.O
def field_Print.l0 : Nat → List (S35) → Int → Int → ByteArray → Option (ByteArray × Int)
  | 0, _, _, _, _ => none
  | k + 1, x7, x8, x9, x119000 => if x9 < x8 then (if 0 ≤ x9 then (if x9 < (x7.length : Int) then ((field_token.f k ((rd_T35 x7 x9).f0)).bind fun t121 => (if t121 = true then ((field_value.f ((rd_T35 x7 x9).f1)).bind fun t122 => (if t122 = true then (if ((rd_T35 x7 x9).f0).size + 2 ≤ 9223372036854775807 then (if (((rd_T35 x7 x9).f0) ++ (⟨#[58, 32]⟩ : ByteArray)).size + ((rd_T35 x7 x9).f1).size ≤ 9223372036854775807 then (if ((((rd_T35 x7 x9).f0) ++ (⟨#[58, 32]⟩ : ByteArray)) ++ ((rd_T35 x7 x9).f1)).size + 2 ≤ 9223372036854775807 then ((Builder_WriteString.f x119000 (((((rd_T35 x7 x9).f0) ++ (⟨#[58, 32]⟩ : ByteArray)) ++ ((rd_T35 x7 x9).f1)) ++ (⟨#[13, 10]⟩ : ByteArray))).bind fun bt123 => (field_Print.l0 k x7 x8 (wrap64 (x9 + 1)) bt123.2.2)) else (none)) else (none)) else (none)) else (some ((⟨#[]⟩ : ByteArray), 180)))) else (some ((⟨#[]⟩ : ByteArray), 180)))) else (none)) else (none)) else ((Builder_WriteString.f x119000 (⟨#[13, 10]⟩ : ByteArray)).bind fun bt126 => ((Builder_Len.f bt126.2.2).bind fun bt129 => (if bt129.1 > 8000 then (some ((⟨#[]⟩ : ByteArray), 2)) else ((Builder_String.f bt129.2).bind fun bt131 => (some (bt131.1, 0))))))
def field_Print.f (k : Nat) (l0 : List (S35)) : Option (ByteArray × Int) := field_Print.l0 k l0 (l0.length : Int) 0 (⟨#[]⟩ : ByteArray)
set_option maxHeartbeats 8000000 in
set_option maxRecDepth 100000 in
theorem field_Print.calls (k : Nat) (A0 : Option Addr) (c0 : Nat) (l0 : List (S35)) (r1 : ByteArray) (r2 : Int) (w : World) (hr0 : Kd.C k35 w A0 l0.length l0) (hc0 : l0.length ≤ c0) (h : field_Print.f k l0 = some (r1, r2)) :
  Calls Tryd.prog 16 #[.slice A0 l0.length c0] w fun e w' => e = .returned (.tuple #[.string r1, .int .i64 r2]) ∧ Below w.heap.size w w' := by
 have hu56 := Tryd.underlying56
 have hu35 := Tryd.underlying35
 have HR0 := Aside0.mk hr0
 have HC0 := Aside0.mk hc0
 clear hr0 hc0
 have HB := Aside0.mk (Below.refl w.heap.size w)
 have H : (field_Print.l0 k l0 (l0.length : Int) 0 (⟨#[]⟩ : ByteArray)) = some (r1, r2) := h
 clear h
 have H' := Aside0.mk H
 clear H
 go_enter Tryd.func16, Tryd.ntmps16
 go_wp2_with (first | ((with_reducible refine gate_dst (N := 4) rfl ?_); refine box_event ?hg (N := 4) ?hd (cs := #[.pointer none, .slice none 0 0]) (t := 56) ?hr ?_; (case hd => rfl); (case hg => rfl); (case hr => first | (go_simp; done) | (go_simp; rfl)); intro gb118 hg w2 hbox hb; have n0_ := Aside0.mk (below_step zb0 hb); have n1_ := Aside0.mk ((by rw [hg]; exact (below_size zb0) : w.heap.size ≤ gb118)); have n2_ := Aside0.mk ((by rw [hg]; exact (below_size zb0) : w.heap.size ≤ gb118)); have n3_ := Aside0.mk ((show IsS56 w w2 gb118 (⟨#[]⟩ : ByteArray) from IsS56.new hbox (by rw [hg]; exact (below_size zb0)))); clear HB; have HB := n0_; have GW118 := n1_; have GE118 := n2_; have HI118 := n3_; clear n0_ n1_ n2_ n3_; clear hb hbox hg))
 first | go_loopg [9] k (fun kq v9 w' => ∃ (x9_1 : Int) (x119000_1 : ByteArray), v9 = .int .i64 x9_1 ∧ Aside0 (field_Print.l0 kq l0 (l0.length : Int) x9_1 x119000_1 = some (r1, r2)) ∧ Aside0 (kq ≤ k) ∧ Aside0 (IsS56 w w' gb118 x119000_1) ∧ Aside0 (Below w.heap.size w w')) | (go_simp; go_loopg [9] k (fun kq v9 w' => ∃ (x9_1 : Int) (x119000_1 : ByteArray), v9 = .int .i64 x9_1 ∧ Aside0 (field_Print.l0 kq l0 (l0.length : Int) x9_1 x119000_1 = some (r1, r2)) ∧ Aside0 (kq ≤ k) ∧ Aside0 (IsS56 w w' gb118 x119000_1) ∧ Aside0 (Below w.heap.size w w')))
 case atStart => exact ⟨(0), ((⟨#[]⟩ : ByteArray)), zb19, H', ⟨Nat.le_refl _⟩, ⟨by repeat (first | (with_reducible first | exact HI118.out | apply IsS56.alloc | apply IsS56.drewN | apply IsS56.drew) | exact HI118.out)⟩, ⟨by repeat (first | (with_reducible first | exact HB.out | apply below_alloc | apply pw_below_drewN | apply below_drew1 | refine below_set ?_ (IsS56.ge HI118.out)) | exact HB.out)⟩⟩
 case round =>
  clear H'
  try clear c1
  try clear p2
  obtain ⟨x9_1, x119000_1, rfl, HA, HK1, HI118, HB⟩ := hrel
  cases gk with
  | zero => exact absurd HA.out (by simp [field_Print.l0])
  | succ k1 =>
   have H := HA.out
   clear HA
   simp only [field_Print.l0] at H
   by_cases c3 : x9_1 < (l0.length : Int)
   ·rw [if_pos c3] at H
    have c3b0 : decide (x9_1 < (l0.length : Int)) = true := decide_eq_true c3
    clear c3
    by_cases c4 : 0 ≤ x9_1
    ·rw [if_pos c4] at H
     have c4b0 : decide (0 ≤ x9_1) = true := decide_eq_true c4
     clear c4
     by_cases c5 : x9_1 < (l0.length : Int)
     ·rw [if_pos c5] at H
      have c5b0 : decide (x9_1 < (l0.length : Int)) = true := decide_eq_true c5
      clear c5
      replace H := Option.bind_eq_some_iff.mp H
      obtain ⟨t121, A60, H⟩ := H
      replace H : (if t121 = true then ((field_value.f ((rd_T35 l0 x9_1).f1)).bind fun t122 => (if t122 = true then (if ((rd_T35 l0 x9_1).f0).size + 2 ≤ 9223372036854775807 then (if (((rd_T35 l0 x9_1).f0) ++ (⟨#[58, 32]⟩ : ByteArray)).size + ((rd_T35 l0 x9_1).f1).size ≤ 9223372036854775807 then (if ((((rd_T35 l0 x9_1).f0) ++ (⟨#[58, 32]⟩ : ByteArray)) ++ ((rd_T35 l0 x9_1).f1)).size + 2 ≤ 9223372036854775807 then ((Builder_WriteString.f x119000_1 (((((rd_T35 l0 x9_1).f0) ++ (⟨#[58, 32]⟩ : ByteArray)) ++ ((rd_T35 l0 x9_1).f1)) ++ (⟨#[13, 10]⟩ : ByteArray))).bind fun bt123 => (field_Print.l0 k1 l0 (l0.length : Int) (wrap64 (x9_1 + 1)) bt123.2.2)) else (none)) else (none)) else (none)) else (some ((⟨#[]⟩ : ByteArray), 180)))) else (some ((⟨#[]⟩ : ByteArray), 180))) = some (r1, r2) := H
      have A6 := Aside0.mk A60
      clear A60
      by_cases c7 : t121 = true
      ·subst c7
       replace H : ((field_value.f ((rd_T35 l0 x9_1).f1)).bind fun t122 => (if t122 = true then (if ((rd_T35 l0 x9_1).f0).size + 2 ≤ 9223372036854775807 then (if (((rd_T35 l0 x9_1).f0) ++ (⟨#[58, 32]⟩ : ByteArray)).size + ((rd_T35 l0 x9_1).f1).size ≤ 9223372036854775807 then (if ((((rd_T35 l0 x9_1).f0) ++ (⟨#[58, 32]⟩ : ByteArray)) ++ ((rd_T35 l0 x9_1).f1)).size + 2 ≤ 9223372036854775807 then ((Builder_WriteString.f x119000_1 (((((rd_T35 l0 x9_1).f0) ++ (⟨#[58, 32]⟩ : ByteArray)) ++ ((rd_T35 l0 x9_1).f1)) ++ (⟨#[13, 10]⟩ : ByteArray))).bind fun bt123 => (field_Print.l0 k1 l0 (l0.length : Int) (wrap64 (x9_1 + 1)) bt123.2.2)) else (none)) else (none)) else (none)) else (some ((⟨#[]⟩ : ByteArray), 180)))) = some (r1, r2) := by rw [if_pos rfl] at H; exact H
       replace H := Option.bind_eq_some_iff.mp H
       obtain ⟨t122, A80, H⟩ := H
       replace H : (if t122 = true then (if ((rd_T35 l0 x9_1).f0).size + 2 ≤ 9223372036854775807 then (if (((rd_T35 l0 x9_1).f0) ++ (⟨#[58, 32]⟩ : ByteArray)).size + ((rd_T35 l0 x9_1).f1).size ≤ 9223372036854775807 then (if ((((rd_T35 l0 x9_1).f0) ++ (⟨#[58, 32]⟩ : ByteArray)) ++ ((rd_T35 l0 x9_1).f1)).size + 2 ≤ 9223372036854775807 then ((Builder_WriteString.f x119000_1 (((((rd_T35 l0 x9_1).f0) ++ (⟨#[58, 32]⟩ : ByteArray)) ++ ((rd_T35 l0 x9_1).f1)) ++ (⟨#[13, 10]⟩ : ByteArray))).bind fun bt123 => (field_Print.l0 k1 l0 (l0.length : Int) (wrap64 (x9_1 + 1)) bt123.2.2)) else (none)) else (none)) else (none)) else (some ((⟨#[]⟩ : ByteArray), 180))) = some (r1, r2) := H
       have A8 := Aside0.mk A80
       clear A80
       by_cases c9 : t122 = true
       ·subst c9
        replace H : (if ((rd_T35 l0 x9_1).f0).size + 2 ≤ 9223372036854775807 then (if (((rd_T35 l0 x9_1).f0) ++ (⟨#[58, 32]⟩ : ByteArray)).size + ((rd_T35 l0 x9_1).f1).size ≤ 9223372036854775807 then (if ((((rd_T35 l0 x9_1).f0) ++ (⟨#[58, 32]⟩ : ByteArray)) ++ ((rd_T35 l0 x9_1).f1)).size + 2 ≤ 9223372036854775807 then ((Builder_WriteString.f x119000_1 (((((rd_T35 l0 x9_1).f0) ++ (⟨#[58, 32]⟩ : ByteArray)) ++ ((rd_T35 l0 x9_1).f1)) ++ (⟨#[13, 10]⟩ : ByteArray))).bind fun bt123 => (field_Print.l0 k1 l0 (l0.length : Int) (wrap64 (x9_1 + 1)) bt123.2.2)) else (none)) else (none)) else (none)) = some (r1, r2) := by rw [if_pos rfl] at H; exact H
        by_cases c10 : ((rd_T35 l0 x9_1).f0).size + 2 ≤ 9223372036854775807
        ·rw [if_pos c10] at H
         have c10b0 := eq_true c10
         have c10b1 : decide (((rd_T35 l0 x9_1).f0).size + 2 ≤ 9223372036854775807) = true := decide_eq_true c10
         try have c10b2 : (9223372036854775807 < ((rd_T35 l0 x9_1).f0).size + 2) = False := eq_false (Nat.not_lt.2 c10)
         by_cases c11 : (((rd_T35 l0 x9_1).f0) ++ (⟨#[58, 32]⟩ : ByteArray)).size + ((rd_T35 l0 x9_1).f1).size ≤ 9223372036854775807
         ·rw [if_pos c11] at H
          have c11b0 := eq_true c11
          have c11b1 : decide ((((rd_T35 l0 x9_1).f0) ++ (⟨#[58, 32]⟩ : ByteArray)).size + ((rd_T35 l0 x9_1).f1).size ≤ 9223372036854775807) = true := decide_eq_true c11
          try have c11b2 : (9223372036854775807 < (((rd_T35 l0 x9_1).f0) ++ (⟨#[58, 32]⟩ : ByteArray)).size + ((rd_T35 l0 x9_1).f1).size) = False := eq_false (Nat.not_lt.2 c11)
          obtain ⟨nc11, hc11⟩ : ∃ n_ : Nat, n_ = (((rd_T35 l0 x9_1).f0) ++ (⟨#[58, 32]⟩ : ByteArray)).size + ((rd_T35 l0 x9_1).f1).size := ⟨_, rfl⟩
          have c11m0 : nc11 ≤ 9223372036854775807 := by rw [hc11]; exact c11
          (first | simp [go_sem, c10b0] at hc11 | simp [go_sem] at hc11 | skip)
          rw [hc11] at c11m0
          have c11m1 := eq_false (Nat.not_lt.2 c11m0)
          have c11m2 := decide_eq_true c11m0
          clear hc11 c11m0
          by_cases c12 : ((((rd_T35 l0 x9_1).f0) ++ (⟨#[58, 32]⟩ : ByteArray)) ++ ((rd_T35 l0 x9_1).f1)).size + 2 ≤ 9223372036854775807
          ·rw [if_pos c12] at H
           have c12b0 := eq_true c12
           have c12b1 : decide (((((rd_T35 l0 x9_1).f0) ++ (⟨#[58, 32]⟩ : ByteArray)) ++ ((rd_T35 l0 x9_1).f1)).size + 2 ≤ 9223372036854775807) = true := decide_eq_true c12
           try have c12b2 : (9223372036854775807 < ((((rd_T35 l0 x9_1).f0) ++ (⟨#[58, 32]⟩ : ByteArray)) ++ ((rd_T35 l0 x9_1).f1)).size + 2) = False := eq_false (Nat.not_lt.2 c12)
           obtain ⟨nc12, hc12⟩ : ∃ n_ : Nat, n_ = ((((rd_T35 l0 x9_1).f0) ++ (⟨#[58, 32]⟩ : ByteArray)) ++ ((rd_T35 l0 x9_1).f1)).size + 2 := ⟨_, rfl⟩
           have c12m0 : nc12 ≤ 9223372036854775807 := by rw [hc12]; exact c12
           (first | simp [go_sem, c10b0, c11b0] at hc12 | simp [go_sem] at hc12 | skip)
           rw [hc12] at c12m0
           have c12m1 := eq_false (Nat.not_lt.2 c12m0)
           have c12m2 := decide_eq_true c12m0
           clear hc12 c12m0
           replace H := Option.bind_eq_some_iff.mp H
           obtain ⟨⟨t123, t124, t125⟩, A130, H⟩ := H
           replace H : (field_Print.l0 k1 l0 (l0.length : Int) (wrap64 (x9_1 + 1)) t125) = some (r1, r2) := H
           have A13 := Aside0.mk A130
           clear A130
           have H' := Aside0.mk H
           clear H
           have p119 : 0 ≤ (x9_1 : Int) := of_decide_eq_true zb12
           have q119 : x9_1 < (l0.length : Int) := of_decide_eq_true zb12
           obtain ⟨ad119, e119, hx119_0, hx119_1⟩ := at_T35 HR0.out x9_1 p119 q119
           cases e119
           replace hx119_0 := (HB.out.cell (World.block_lt_of_cell? w _ hx119_0)).trans hx119_0
           replace hx119_1 := (HB.out.cell (World.block_lt_of_cell? w _ hx119_1)).trans hx119_1
           replace p119 := eq_true p119
           replace q119 := eq_true q119
           go_wp2_with (first | ((with_reducible refine gate_dst (N := 6) rfl ?_); refine box_event ?hg (N := 6) ?hd (cs := #[.string (⟨#[]⟩ : ByteArray), .string (⟨#[]⟩ : ByteArray)]) (t := 35) ?hr ?_; (case hd => rfl); (case hg => rfl); (case hr => first | (go_simp; done) | (go_simp; rfl)); intro gb120 hg w14 hbox hb; have n0_ := Aside0.mk (IsS56.below zb35 hb); have n1_ := Aside0.mk (below_step zb14 hb); have n2_ := Aside0.mk (hbox); have n3_ := Aside0.mk ((by rw [hg]; exact (below_size zb14) : w.heap.size ≤ gb120)); have n4_ := Aside0.mk ((by rw [hg]; exact (below_size zb14) : w.heap.size ≤ gb120)); have n5_ := Aside0.mk ((by rw [hg]; exact Nat.ne_of_lt (IsS56.lt (show IsS56 w _ gb118 x119000_1 from by repeat (first | (with_reducible first | exact HI118.out | apply IsS56.alloc | apply IsS56.drewN | apply IsS56.drew) | exact HI118.out))) : gb118 ≠ gb120)); have n6_ := Aside0.mk ((by rw [hg]; exact Nat.ne_of_gt (IsS56.lt (show IsS56 w _ gb118 x119000_1 from by repeat (first | (with_reducible first | exact HI118.out | apply IsS56.alloc | apply IsS56.drewN | apply IsS56.drew) | exact HI118.out))) : gb120 ≠ gb118)); clear HI118; clear HB; have HI118 := n0_; have HB := n1_; have BK120 := n2_; have GW120 := n3_; have GE120 := n4_; have NB118_120 := n5_; have NB120_118 := n6_; clear n0_ n1_ n2_ n3_ n4_ n5_ n6_; clear hb hbox hg; have hnb15 := NB120_118.out; have hnc15 := NB118_120.out; have hcz16_0 : w14.cell? ⟨gb120, 0, none⟩ = some (.string (⟨#[]⟩ : ByteArray)) := (blk_cell BK120.out 0).trans rfl; have hcz16_1 : w14.cell? ⟨gb120, 1, none⟩ = some (.string (⟨#[]⟩ : ByteArray)) := (blk_cell BK120.out 1).trans rfl; have hfz16_0 := blk_frozen BK120.out 0; have hfz16_1 := blk_frozen BK120.out 1) | ((with_reducible refine gate_callee (f := 24) rfl ?_); refine goesL_ (some 15) rfl rfl Tryd.func24 zb11 rfl #[.string ((rd_T35 l0 x9_1).f0)] rfl zb1 ?_; (with_reducible refine (field_token.calls k1 ((rd_T35 l0 x9_1).f0) true _ A6.out).mono ?_); rintro e w17 ⟨rfl, hb⟩; refine ⟨_, rfl, ?_⟩; have n0_ := Aside0.mk (IsS56.below (show IsS56 w ((w14.setCell ⟨gb120, 0, none⟩ (.string ((rd_T35 l0 x9_1).f0))).setCell ⟨gb120, 1, none⟩ (.string ((rd_T35 l0 x9_1).f1))) gb118 x119000_1 from by repeat (first | (with_reducible first | exact HI118.out | apply IsS56.alloc | apply IsS56.drewN | apply IsS56.drew | refine IsS56.farB ?_ NB118_120.out zb25 zb32 _) | exact HI118.out)) hb); have n1_ := Aside0.mk (blk_below (g := gb120) (o := .cells #[.string ((rd_T35 l0 x9_1).f0), .string ((rd_T35 l0 x9_1).f1)] 35 (0, 0)) zb21 hb); have n2_ := Aside0.mk (below_step zb17 hb); clear HI118; clear BK120; clear HB; have HI118 := n0_; have BK120 := n1_; have HB := n2_; clear n0_ n1_ n2_; (try clear hb); (try clear hb2); (try clear hk); (try clear hi); have hcz18_0 : w17.cell? ⟨gb120, 0, none⟩ = some (.string ((rd_T35 l0 x9_1).f0)) := (blk_cell BK120.out 0).trans rfl; have hcz18_1 : w17.cell? ⟨gb120, 1, none⟩ = some (.string ((rd_T35 l0 x9_1).f1)) := (blk_cell BK120.out 1).trans rfl; have hfz18_0 := blk_frozen BK120.out 0; have hfz18_1 := blk_frozen BK120.out 1) | (go_at_call 25; (with_reducible refine (field_value.calls ((rd_T35 l0 x9_1).f1) true _ A8.out).mono ?_); rintro e w19 ⟨rfl, hb⟩; have n0_ := Aside0.mk (IsS56.below (by repeat (first | (with_reducible first | exact HI118.out | apply IsS56.alloc | apply IsS56.drewN | apply IsS56.drew | refine IsS56.farB ?_ NB118_120.out zb25 zb32 _) | exact HI118.out)) hb); have n1_ := Aside0.mk (blk_below (g := gb120) (o := .cells #[.string ((rd_T35 l0 x9_1).f0), .string ((rd_T35 l0 x9_1).f1)] 35 (0, 0)) zb36 hb); have n2_ := Aside0.mk (below_step zb17 hb); clear HI118; clear BK120; clear HB; have HI118 := n0_; have BK120 := n1_; have HB := n2_; clear n0_ n1_ n2_; (try clear hb); (try clear hb2); (try clear hk); (try clear hi); have hcz20_0 : w19.cell? ⟨gb120, 0, none⟩ = some (.string ((rd_T35 l0 x9_1).f0)) := (blk_cell BK120.out 0).trans rfl; have hcz20_1 : w19.cell? ⟨gb120, 1, none⟩ = some (.string ((rd_T35 l0 x9_1).f1)) := (blk_cell BK120.out 1).trans rfl; have hfz20_0 := blk_frozen BK120.out 0; have hfz20_1 := blk_frozen BK120.out 1) | ((with_reducible refine gate_callee (f := 26) rfl ?_); refine goesL_ (some 30) rfl rfl Tryd.func26 zb11 rfl #[.pointer (some ⟨gb118, 0, none⟩), .string (((((rd_T35 l0 x9_1).f0) ++ (⟨#[58, 32]⟩ : ByteArray)) ++ ((rd_T35 l0 x9_1).f1)) ++ (⟨#[13, 10]⟩ : ByteArray))] rfl zb1 ?_; (with_reducible refine (Builder_WriteString.calls gb118 x119000_1 (((((rd_T35 l0 x9_1).f0) ++ (⟨#[58, 32]⟩ : ByteArray)) ++ ((rd_T35 l0 x9_1).f1)) ++ (⟨#[13, 10]⟩ : ByteArray)) t123 t124 t125 w _ ?side1 ?side2 A13.out).mono ?_); (case side1 => repeat (first | (with_reducible first | exact HI118.out | apply IsS56.alloc | apply IsS56.drewN | apply IsS56.drew | refine IsS56.farB ?_ NB118_120.out zb25 zb32 _) | exact HI118.out)); (case side2 => repeat (first | (with_reducible first | exact HB.out | apply below_alloc | apply pw_below_drewN | apply below_drew1 | refine below_set ?_ (IsS56.ge HI118.out) | refine below_set ?_ GE120.out) | exact HB.out)); rintro e w21 ⟨rfl, hi, hb, hk⟩; refine ⟨_, rfl, ?_⟩; have n0_ := Aside0.mk (blk_keepO hk (g := gb120) (o := .cells #[.string ((rd_T35 l0 x9_1).f0), .string ((rd_T35 l0 x9_1).f1)] 35 (0, 0)) zb36 rfl zb32 NB120_118.out); have n1_ := Aside0.mk (hb); have n2_ := Aside0.mk (hi); clear BK120; clear HB; clear HI118; have BK120 := n0_; have HB := n1_; have HI118 := n2_; clear n0_ n1_ n2_; (try clear hb); (try clear hk); (try clear hi); (try simp only [errW_none, errW_some])))
           go_roundg k1
           case measure => have := HK1.out; omega
           case rel => exact ⟨(wrap64 (x9_1 + 1)), (t125), zb19, H', ⟨by have := HK1.out; omega⟩, ⟨by repeat (first | (with_reducible first | exact HI118.out | apply IsS56.alloc | apply IsS56.drewN | apply IsS56.drew | refine IsS56.farB ?_ NB118_120.out zb25 zb32 _) | exact HI118.out)⟩, ⟨by repeat (first | (with_reducible first | exact HB.out | apply below_alloc | apply pw_below_drewN | apply below_drew1 | refine below_set ?_ (IsS56.ge HI118.out) | refine below_set ?_ GE120.out) | exact HB.out)⟩⟩
          ·rw [if_neg c12] at H
           exact absurd H (by simp)
         ·rw [if_neg c11] at H
          exact absurd H (by simp)
        ·rw [if_neg c10] at H
         exact absurd H (by simp)
       ·replace c9 := Bool.eq_false_iff.mpr c9
        subst c9
        replace H : (some ((⟨#[]⟩ : ByteArray), 180)) = some (r1, r2) := by rw [if_neg (show ¬ (false = true) by decide)] at H; exact H
        simp only [Option.some.injEq, Prod.mk.injEq] at H
        obtain ⟨rfl, rfl⟩ := H
        have p119 : 0 ≤ (x9_1 : Int) := of_decide_eq_true zb12
        have q119 : x9_1 < (l0.length : Int) := of_decide_eq_true zb12
        obtain ⟨ad119, e119, hx119_0, hx119_1⟩ := at_T35 HR0.out x9_1 p119 q119
        cases e119
        replace hx119_0 := (HB.out.cell (World.block_lt_of_cell? w _ hx119_0)).trans hx119_0
        replace hx119_1 := (HB.out.cell (World.block_lt_of_cell? w _ hx119_1)).trans hx119_1
        replace p119 := eq_true p119
        replace q119 := eq_true q119
        go_wp2_with (first | ((with_reducible refine gate_dst (N := 6) rfl ?_); refine box_event ?hg (N := 6) ?hd (cs := #[.string (⟨#[]⟩ : ByteArray), .string (⟨#[]⟩ : ByteArray)]) (t := 35) ?hr ?_; (case hd => rfl); (case hg => rfl); (case hr => first | (go_simp; done) | (go_simp; rfl)); intro gb120 hg w22 hbox hb; have n0_ := Aside0.mk (IsS56.below zb35 hb); have n1_ := Aside0.mk (below_step zb14 hb); have n2_ := Aside0.mk (hbox); have n3_ := Aside0.mk ((by rw [hg]; exact (below_size zb14) : w.heap.size ≤ gb120)); have n4_ := Aside0.mk ((by rw [hg]; exact (below_size zb14) : w.heap.size ≤ gb120)); have n5_ := Aside0.mk ((by rw [hg]; exact Nat.ne_of_lt (IsS56.lt (show IsS56 w _ gb118 x119000_1 from by repeat (first | (with_reducible first | exact HI118.out | apply IsS56.alloc | apply IsS56.drewN | apply IsS56.drew) | exact HI118.out))) : gb118 ≠ gb120)); have n6_ := Aside0.mk ((by rw [hg]; exact Nat.ne_of_gt (IsS56.lt (show IsS56 w _ gb118 x119000_1 from by repeat (first | (with_reducible first | exact HI118.out | apply IsS56.alloc | apply IsS56.drewN | apply IsS56.drew) | exact HI118.out))) : gb120 ≠ gb118)); clear HI118; clear HB; have HI118 := n0_; have HB := n1_; have BK120 := n2_; have GW120 := n3_; have GE120 := n4_; have NB118_120 := n5_; have NB120_118 := n6_; clear n0_ n1_ n2_ n3_ n4_ n5_ n6_; clear hb hbox hg; have hnb23 := NB120_118.out; have hnc23 := NB118_120.out; have hcz24_0 : w22.cell? ⟨gb120, 0, none⟩ = some (.string (⟨#[]⟩ : ByteArray)) := (blk_cell BK120.out 0).trans rfl; have hcz24_1 : w22.cell? ⟨gb120, 1, none⟩ = some (.string (⟨#[]⟩ : ByteArray)) := (blk_cell BK120.out 1).trans rfl; have hfz24_0 := blk_frozen BK120.out 0; have hfz24_1 := blk_frozen BK120.out 1) | ((with_reducible refine gate_callee (f := 24) rfl ?_); refine goesL_ (some 15) rfl rfl Tryd.func24 zb11 rfl #[.string ((rd_T35 l0 x9_1).f0)] rfl zb1 ?_; (with_reducible refine (field_token.calls k1 ((rd_T35 l0 x9_1).f0) true _ A6.out).mono ?_); rintro e w25 ⟨rfl, hb⟩; refine ⟨_, rfl, ?_⟩; have n0_ := Aside0.mk (IsS56.below (show IsS56 w ((w22.setCell ⟨gb120, 0, none⟩ (.string ((rd_T35 l0 x9_1).f0))).setCell ⟨gb120, 1, none⟩ (.string ((rd_T35 l0 x9_1).f1))) gb118 x119000_1 from by repeat (first | (with_reducible first | exact HI118.out | apply IsS56.alloc | apply IsS56.drewN | apply IsS56.drew | refine IsS56.farB ?_ NB118_120.out zb25 zb32 _) | exact HI118.out)) hb); have n1_ := Aside0.mk (blk_below (g := gb120) (o := .cells #[.string ((rd_T35 l0 x9_1).f0), .string ((rd_T35 l0 x9_1).f1)] 35 (0, 0)) zb21 hb); have n2_ := Aside0.mk (below_step zb17 hb); clear HI118; clear BK120; clear HB; have HI118 := n0_; have BK120 := n1_; have HB := n2_; clear n0_ n1_ n2_; (try clear hb); (try clear hb2); (try clear hk); (try clear hi); have hcz26_0 : w25.cell? ⟨gb120, 0, none⟩ = some (.string ((rd_T35 l0 x9_1).f0)) := (blk_cell BK120.out 0).trans rfl; have hcz26_1 : w25.cell? ⟨gb120, 1, none⟩ = some (.string ((rd_T35 l0 x9_1).f1)) := (blk_cell BK120.out 1).trans rfl; have hfz26_0 := blk_frozen BK120.out 0; have hfz26_1 := blk_frozen BK120.out 1) | (go_at_call 25; (with_reducible refine (field_value.calls ((rd_T35 l0 x9_1).f1) false _ A8.out).mono ?_); rintro e w27 ⟨rfl, hb⟩; have n0_ := Aside0.mk (IsS56.below (by repeat (first | (with_reducible first | exact HI118.out | apply IsS56.alloc | apply IsS56.drewN | apply IsS56.drew | refine IsS56.farB ?_ NB118_120.out zb25 zb32 _) | exact HI118.out)) hb); have n1_ := Aside0.mk (blk_below (g := gb120) (o := .cells #[.string ((rd_T35 l0 x9_1).f0), .string ((rd_T35 l0 x9_1).f1)] 35 (0, 0)) zb36 hb); have n2_ := Aside0.mk (below_step zb17 hb); clear HI118; clear BK120; clear HB; have HI118 := n0_; have BK120 := n1_; have HB := n2_; clear n0_ n1_ n2_; (try clear hb); (try clear hb2); (try clear hk); (try clear hi)))
        go_ret2
        exact ⟨zb8, zb17⟩
      ·replace c7 := Bool.eq_false_iff.mpr c7
       subst c7
       replace H : (some ((⟨#[]⟩ : ByteArray), 180)) = some (r1, r2) := by rw [if_neg (show ¬ (false = true) by decide)] at H; exact H
       simp only [Option.some.injEq, Prod.mk.injEq] at H
       obtain ⟨rfl, rfl⟩ := H
       have p119 : 0 ≤ (x9_1 : Int) := of_decide_eq_true zb12
       have q119 : x9_1 < (l0.length : Int) := of_decide_eq_true zb12
       obtain ⟨ad119, e119, hx119_0, hx119_1⟩ := at_T35 HR0.out x9_1 p119 q119
       cases e119
       replace hx119_0 := (HB.out.cell (World.block_lt_of_cell? w _ hx119_0)).trans hx119_0
       replace hx119_1 := (HB.out.cell (World.block_lt_of_cell? w _ hx119_1)).trans hx119_1
       replace p119 := eq_true p119
       replace q119 := eq_true q119
       go_wp2_with (first | ((with_reducible refine gate_dst (N := 6) rfl ?_); refine box_event ?hg (N := 6) ?hd (cs := #[.string (⟨#[]⟩ : ByteArray), .string (⟨#[]⟩ : ByteArray)]) (t := 35) ?hr ?_; (case hd => rfl); (case hg => rfl); (case hr => first | (go_simp; done) | (go_simp; rfl)); intro gb120 hg w28 hbox hb; have n0_ := Aside0.mk (IsS56.below zb35 hb); have n1_ := Aside0.mk (below_step zb14 hb); have n2_ := Aside0.mk (hbox); have n3_ := Aside0.mk ((by rw [hg]; exact (below_size zb14) : w.heap.size ≤ gb120)); have n4_ := Aside0.mk ((by rw [hg]; exact (below_size zb14) : w.heap.size ≤ gb120)); have n5_ := Aside0.mk ((by rw [hg]; exact Nat.ne_of_lt (IsS56.lt (show IsS56 w _ gb118 x119000_1 from by repeat (first | (with_reducible first | exact HI118.out | apply IsS56.alloc | apply IsS56.drewN | apply IsS56.drew) | exact HI118.out))) : gb118 ≠ gb120)); have n6_ := Aside0.mk ((by rw [hg]; exact Nat.ne_of_gt (IsS56.lt (show IsS56 w _ gb118 x119000_1 from by repeat (first | (with_reducible first | exact HI118.out | apply IsS56.alloc | apply IsS56.drewN | apply IsS56.drew) | exact HI118.out))) : gb120 ≠ gb118)); clear HI118; clear HB; have HI118 := n0_; have HB := n1_; have BK120 := n2_; have GW120 := n3_; have GE120 := n4_; have NB118_120 := n5_; have NB120_118 := n6_; clear n0_ n1_ n2_ n3_ n4_ n5_ n6_; clear hb hbox hg; have hnb29 := NB120_118.out; have hnc29 := NB118_120.out; have hcz30_0 : w28.cell? ⟨gb120, 0, none⟩ = some (.string (⟨#[]⟩ : ByteArray)) := (blk_cell BK120.out 0).trans rfl; have hcz30_1 : w28.cell? ⟨gb120, 1, none⟩ = some (.string (⟨#[]⟩ : ByteArray)) := (blk_cell BK120.out 1).trans rfl; have hfz30_0 := blk_frozen BK120.out 0; have hfz30_1 := blk_frozen BK120.out 1) | ((with_reducible refine gate_callee (f := 24) rfl ?_); refine goesL_ (some 15) rfl rfl Tryd.func24 zb11 rfl #[.string ((rd_T35 l0 x9_1).f0)] rfl zb1 ?_; (with_reducible refine (field_token.calls k1 ((rd_T35 l0 x9_1).f0) false _ A6.out).mono ?_); rintro e w31 ⟨rfl, hb⟩; refine ⟨_, rfl, ?_⟩; have n0_ := Aside0.mk (IsS56.below (show IsS56 w ((w28.setCell ⟨gb120, 0, none⟩ (.string ((rd_T35 l0 x9_1).f0))).setCell ⟨gb120, 1, none⟩ (.string ((rd_T35 l0 x9_1).f1))) gb118 x119000_1 from by repeat (first | (with_reducible first | exact HI118.out | apply IsS56.alloc | apply IsS56.drewN | apply IsS56.drew | refine IsS56.farB ?_ NB118_120.out zb25 zb32 _) | exact HI118.out)) hb); have n1_ := Aside0.mk (blk_below (g := gb120) (o := .cells #[.string ((rd_T35 l0 x9_1).f0), .string ((rd_T35 l0 x9_1).f1)] 35 (0, 0)) zb21 hb); have n2_ := Aside0.mk (below_step zb17 hb); clear HI118; clear BK120; clear HB; have HI118 := n0_; have BK120 := n1_; have HB := n2_; clear n0_ n1_ n2_; (try clear hb); (try clear hb2); (try clear hk); (try clear hi)))
       go_ret2
       exact ⟨zb8, zb17⟩
     ·rw [if_neg c5] at H
      exact absurd H (by simp)
    ·rw [if_neg c4] at H
     exact absurd H (by simp)
   ·rw [if_neg c3] at H
    have c3b0 : decide (x9_1 < (l0.length : Int)) = false := decide_eq_false c3
    clear c3
    replace H := Option.bind_eq_some_iff.mp H
    obtain ⟨⟨t126, t127, t128⟩, A320, H⟩ := H
    replace H : ((Builder_Len.f t128).bind fun bt129 => (if bt129.1 > 8000 then (some ((⟨#[]⟩ : ByteArray), 2)) else ((Builder_String.f bt129.2).bind fun bt131 => (some (bt131.1, 0))))) = some (r1, r2) := H
    have A32 := Aside0.mk A320
    clear A320
    replace H := Option.bind_eq_some_iff.mp H
    obtain ⟨⟨t129, t130⟩, A330, H⟩ := H
    replace H : (if t129 > 8000 then (some ((⟨#[]⟩ : ByteArray), 2)) else ((Builder_String.f t130).bind fun bt131 => (some (bt131.1, 0)))) = some (r1, r2) := H
    have A33 := Aside0.mk A330
    clear A330
    by_cases c34 : t129 > 8000
    ·rw [if_pos c34] at H
     have c34b0 : decide (8000 < t129) = true := decide_eq_true c34
     clear c34
     simp only [Option.some.injEq, Prod.mk.injEq] at H
     obtain ⟨rfl, rfl⟩ := H
     go_wp2_with (first | ((with_reducible refine gate_callee (f := 26) rfl ?_); refine goesL_ (some 32) rfl rfl Tryd.func26 zb11 rfl #[.pointer (some ⟨gb118, 0, none⟩), .string (⟨#[13, 10]⟩ : ByteArray)] rfl zb1 ?_; (with_reducible refine (Builder_WriteString.calls gb118 x119000_1 (⟨#[13, 10]⟩ : ByteArray) t126 t127 t128 w _ ?side1 ?side2 A32.out).mono ?_); (case side1 => repeat (first | (with_reducible first | exact HI118.out | apply IsS56.alloc | apply IsS56.drewN | apply IsS56.drew) | exact HI118.out)); (case side2 => repeat (first | (with_reducible first | exact HB.out | apply below_alloc | apply pw_below_drewN | apply below_drew1 | refine below_set ?_ (IsS56.ge HI118.out)) | exact HB.out)); rintro e w35 ⟨rfl, hi, hb, hk⟩; refine ⟨_, rfl, ?_⟩; have n0_ := Aside0.mk (hb); have n1_ := Aside0.mk (hi); clear HB; clear HI118; have HB := n0_; have HI118 := n1_; clear n0_ n1_; (try clear hb); (try clear hk); (try clear hi); (try simp only [errW_none, errW_some])) | ((with_reducible refine gate_callee (f := 27) rfl ?_); refine goesL_ (some 33) rfl rfl Tryd.func27 zb11 rfl #[.pointer (some ⟨gb118, 0, none⟩)] rfl zb1 ?_; (with_reducible refine (Builder_Len.calls gb118 t128 t129 t130 w _ ?side1 ?side2 A33.out).mono ?_); (case side1 => repeat (first | (with_reducible first | exact HI118.out | apply IsS56.alloc | apply IsS56.drewN | apply IsS56.drew) | exact HI118.out)); (case side2 => repeat (first | (with_reducible first | exact HB.out | apply below_alloc | apply pw_below_drewN | apply below_drew1 | refine below_set ?_ (IsS56.ge HI118.out)) | exact HB.out)); rintro e w36 ⟨rfl, hi, hb, hk⟩; refine ⟨_, rfl, ?_⟩; have n0_ := Aside0.mk (hb); have n1_ := Aside0.mk (hi); clear HB; clear HI118; have HB := n0_; have HI118 := n1_; clear n0_ n1_; (try clear hb); (try clear hk); (try clear hi)))
     go_ret2
     exact ⟨zb8, zb14⟩
    ·rw [if_neg c34] at H
     have c34b0 : decide (8000 < t129) = false := decide_eq_false c34
     clear c34
     replace H := Option.bind_eq_some_iff.mp H
     obtain ⟨⟨t131, t132⟩, A370, H⟩ := H
     replace H : (some (t131, 0)) = some (r1, r2) := H
     have A37 := Aside0.mk A370
     clear A370
     simp only [Option.some.injEq, Prod.mk.injEq] at H
     obtain ⟨rfl, rfl⟩ := H
     go_wp2_with (first | ((with_reducible refine gate_callee (f := 26) rfl ?_); refine goesL_ (some 32) rfl rfl Tryd.func26 zb11 rfl #[.pointer (some ⟨gb118, 0, none⟩), .string (⟨#[13, 10]⟩ : ByteArray)] rfl zb1 ?_; (with_reducible refine (Builder_WriteString.calls gb118 x119000_1 (⟨#[13, 10]⟩ : ByteArray) t126 t127 t128 w _ ?side1 ?side2 A32.out).mono ?_); (case side1 => repeat (first | (with_reducible first | exact HI118.out | apply IsS56.alloc | apply IsS56.drewN | apply IsS56.drew) | exact HI118.out)); (case side2 => repeat (first | (with_reducible first | exact HB.out | apply below_alloc | apply pw_below_drewN | apply below_drew1 | refine below_set ?_ (IsS56.ge HI118.out)) | exact HB.out)); rintro e w38 ⟨rfl, hi, hb, hk⟩; refine ⟨_, rfl, ?_⟩; have n0_ := Aside0.mk (hb); have n1_ := Aside0.mk (hi); clear HB; clear HI118; have HB := n0_; have HI118 := n1_; clear n0_ n1_; (try clear hb); (try clear hk); (try clear hi); (try simp only [errW_none, errW_some])) | ((with_reducible refine gate_callee (f := 27) rfl ?_); refine goesL_ (some 33) rfl rfl Tryd.func27 zb11 rfl #[.pointer (some ⟨gb118, 0, none⟩)] rfl zb1 ?_; (with_reducible refine (Builder_Len.calls gb118 t128 t129 t130 w _ ?side1 ?side2 A33.out).mono ?_); (case side1 => repeat (first | (with_reducible first | exact HI118.out | apply IsS56.alloc | apply IsS56.drewN | apply IsS56.drew) | exact HI118.out)); (case side2 => repeat (first | (with_reducible first | exact HB.out | apply below_alloc | apply pw_below_drewN | apply below_drew1 | refine below_set ?_ (IsS56.ge HI118.out)) | exact HB.out)); rintro e w39 ⟨rfl, hi, hb, hk⟩; refine ⟨_, rfl, ?_⟩; have n0_ := Aside0.mk (hb); have n1_ := Aside0.mk (hi); clear HB; clear HI118; have HB := n0_; have HI118 := n1_; clear n0_ n1_; (try clear hb); (try clear hk); (try clear hi)) | ((with_reducible refine gate_callee (f := 28) rfl ?_); refine goesL_ (some 35) rfl rfl Tryd.func28 zb11 rfl #[.pointer (some ⟨gb118, 0, none⟩)] rfl zb1 ?_; (with_reducible refine (Builder_String.calls gb118 t130 t131 t132 w _ ?side1 ?side2 A37.out).mono ?_); (case side1 => repeat (first | (with_reducible first | exact HI118.out | apply IsS56.alloc | apply IsS56.drewN | apply IsS56.drew) | exact HI118.out)); (case side2 => repeat (first | (with_reducible first | exact HB.out | apply below_alloc | apply pw_below_drewN | apply below_drew1 | refine below_set ?_ (IsS56.ge HI118.out)) | exact HB.out)); rintro e w40 ⟨rfl, hi, hb, hk⟩; refine ⟨_, rfl, ?_⟩; have n0_ := Aside0.mk (hb); have n1_ := Aside0.mk (hi); clear HB; clear HI118; have HB := n0_; have HI118 := n1_; clear n0_ n1_; (try clear hb); (try clear hk); (try clear hi)))
     go_ret2
     exact ⟨zb8, zb14⟩
end Go.Proofs.YtaopopnlnohnpaaDoor.P
/- Oclp -/
namespace Go.Proofs.YtaopopnlnohnpaaDoor.O
open Go.RowKit Go.Proofs.YtaopopnlnohnpaaDoorW.PrintWords Go.Proofs.YtaopopnlnohnpaaDoorW.PrintLast Go.Proofs.YtaopopnlnohnpaaDoorW.PrintMore Go.Proofs.YtaopopnlnohnpaaDoor.P
set_option linter.unusedVariables false
set_option linter.unusedSimpArgs false
theorem slices_Clip.calls (A : Option Addr) (n c : Nat) (w : World) (hn : n ≤ c) (hm : n ≤ 9223372036854775807) (h0 : A = none → n = 0) :
    Calls Tryd.prog 14 #[.slice A n c] w fun e w' => e = .returned (.slice A n n) ∧ Drawn0 w w' := by
  go_enter Tryd.func14, Tryd.ntmps14
  cases A with
  | none =>
    obtain rfl := h0 rfl
    go_wp2
    go_ret
    exact ⟨rfl, ⟨0, rfl⟩⟩
  | some ad =>
    have h1 : ((n : Int) ≤ (c : Int)) = True := eq_true zb26
    have h2 : ((0 : Int) ≤ (n : Int)) = True := eq_true zb26
    go_wp2
    go_ret
    exact ⟨rfl, ⟨0, rfl⟩⟩
def flatP (xs : List S35) : List Value := xs.flatMap fun p => [.string p.f0, .string p.f1]
theorem flatP_len (xs : List S35) : (flatP xs).length = xs.length * 2 := by
  induction xs with
  | nil => rfl
  | cons p r ih =>
    show (([.string p.f0, .string p.f1] : List Value) ++ flatP r).length = _
    rw [List.length_append, ih, List.length_cons]
    simp only [List.length_cons, List.length_nil]
    omega
theorem flatP_snoc (xs : List S35) (p : S35) : flatP (xs ++ [p]) = flatP xs ++ [.string p.f0, .string p.f1] := by simp [flatP]
theorem flatP_at : ∀ (xs : List S35) (j i : Nat) (p : S35) (u : Value), xs[j]? = some p → ([.string p.f0, .string p.f1] : List Value)[i]? = some u → (flatP xs)[j * 2 + i]? = some u
  | [], j, i, p, u, h, _ => by simp at h
  | q :: r, 0, i, p, u, h, hu => by
    obtain rfl : q = p := by simpa using h
    show (([.string q.f0, .string q.f1] : List Value) ++ flatP r)[0 * 2 + i]? = _
    have hi := (List.getElem?_eq_some_iff.1 hu).1
    rw [List.getElem?_append_left (by simpa using hi)]
    simpa using hu
  | q :: r, j + 1, i, p, u, h, hu => by
    show (([.string q.f0, .string q.f1] : List Value) ++ flatP r)[(j + 1) * 2 + i]? = _
    rw [List.getElem?_append_right (by simp; omega)]
    have := flatP_at r j i p u (by simpa using h) hu
    rw [← this]
    congr 1
    simp
    omega
theorem flatP_of : ∀ (xs : List S35) (m : Nat) (u : Value), (flatP xs)[m]? = some u → ∃ j i p, m = j * 2 + i ∧ xs[j]? = some p ∧ ([.string p.f0, .string p.f1] : List Value)[i]? = some u
  | [], m, u, h => by simp [flatP] at h
  | q :: r, m, u, h => by
    have h' : (([.string q.f0, .string q.f1] : List Value) ++ flatP r)[m]? = some u := h
    by_cases hm : m < 2
    · rw [List.getElem?_append_left (by simpa using hm)] at h'
      exact ⟨0, m, q, by omega, rfl, h'⟩
    · rw [List.getElem?_append_right (by simp; omega)] at h'
      obtain ⟨j, i, p, e, h1, h2⟩ := flatP_of r (m - 2) u (by simpa using h')
      exact ⟨j + 1, i, p, by omega, by simpa using h1, h2⟩
theorem k_cells {w : World} {x : S35} {c : List Value} (h : k35.K w x c) : c = [.string x.f0, .string x.f1] := by
  obtain ⟨a, b, h1, h2, h3⟩ := h
  have e1 : a = [.string x.f0] := h2
  have e2 : b = [.string x.f1] := h3
  rw [h1, e1, e2]
  rfl
theorem olds_at {w : World} {ad : Addr} {xs : List S35} (h : Kd.C k35 w (some ad) xs.length xs) : ∀ j u, (flatP xs)[j]? = some u → w.cell? (ad.add j) = some u := by
  intro m u hu
  obtain ⟨j, i, p, rfl, h1, h2⟩ := flatP_of xs m u hu
  have hpos : 0 < xs.length := by have := (List.getElem?_eq_some_iff.1 h1).1; omega
  obtain ⟨ad', e, hc⟩ := h.2.2 hpos
  obtain rfl := Option.some.inj e
  obtain ⟨c, hl, hk, hcell⟩ := hc j p h1
  rw [k_cells hk] at hcell
  exact hcell i u h2
theorem row_of_block {w : World} {xs : List S35} {zs : Array Value} {b : Nat} {e : TypeId} {fr : Nat × Nat} (h : w.heap[b]? = some (.cells ((flatP xs).toArray ++ zs) e fr)) (hm : xs.length ≤ 9223372036854775807) : Kd.C k35 w (some ⟨b, 0, none⟩) xs.length xs := by
  refine ⟨rfl, hm, fun _ => ⟨_, rfl, fun j p hp => ⟨[.string p.f0, .string p.f1], rfl, k35_mk _ _, fun i u hu => ?_⟩⟩⟩
  have h1 := flatP_at xs j i p u hp hu
  refine World.news_of_block h _ _ ?_
  change ((flatP xs).toArray ++ zs).toList[j * 2 + i]? = some u
  have h2 := (List.getElem?_eq_some_iff.1 h1).1
  rw [Array.toList_append, List.getElem?_append_left (by simpa using h2)]
  exact h1
theorem clip_append {ops : Array Oper} {rest : List Oper} {o : Oper} {a : Act} {Q : Exit → Act → World → Prop} {w0 W : World} (base : Nat) (hgd : o.guard = none) (s x : Operand)
    (ho : o.op = .call { callee := .builtin .append, args := #[s, x], argTypes := #[22, 22] })
    (A : Option Addr) (xs : List S35) (p : S35) (hs : a.eval s = .slice A xs.length xs.length) (hx : a.eval x = .slice (some ⟨W.heap.size, 0, none⟩) 1 1)
    (HC : Kd.C k35 W A xs.length xs) (hA : A = none → xs = []) (HB : Below base w0 W) (hbase : base ≤ W.heap.size) (hl : xs.length < 4398046511104)
    (h : ∀ A1 c1 w1, Kd.C k35 w1 A1 (xs ++ [p]).length (xs ++ [p]) → (xs ++ [p]).length ≤ c1 → Below base w0 w1 → Below W.heap.size W w1 → wpList Tryd.prog ops Q rest (a.put o.dst (.slice A1 (xs ++ [p]).length c1)) w1) :
    wpList Tryd.prog ops Q (o :: rest) a (W.alloc (.cells #[.string p.f0, .string p.f1] 35)) := by
  obtain ⟨i0, hi, hzz⟩ := Option.map_eq_some_iff.1 info35
  simp only [Prod.mk.injEq] at hzz
  obtain ⟨hz0, hz1, hz2⟩ := hzz
  obtain ⟨V, hV⟩ : ∃ V, V = W.alloc (.cells #[.string p.f0, .string p.f1] 35) := ⟨_, rfl⟩
  have hVs : V.heap.size = W.heap.size + 1 := by rw [hV]; simp
  have hbV : Below W.heap.size W V := by rw [hV]; exact below_alloc (Below.refl _ _) _
  have hnews : ∀ j v, ([.string p.f0, .string p.f1] : List Value)[j]? = some v → V.cell? ((⟨W.heap.size, 0, none⟩ : Addr).add j) = some v := by
    rw [hV]
    exact World.news_of_block (cs := #[.string p.f0, .string p.f1]) (t := 35) (fr := (0, 0)) (heap_alloc_new W (.cells #[.string p.f0, .string p.f1] 35))
  have hCV : Kd.C k35 V A xs.length xs := by rw [hV]; exact Kd.C_alloc HC _
  rw [← hV]
  have key : ∃ c1 zs, xs.length + 1 ≤ c1 ∧ (Builtin.append_ #[22, 22] o.type #[.slice A xs.length xs.length, .slice (some ⟨W.heap.size, 0, none⟩) 1 1]).run Tryd.prog V = .ok (.slice (some ⟨V.heap.size, 0, none⟩) (xs.length + 1) c1) (V.drew.alloc (.cells ((flatP (xs ++ [p])).toArray ++ zs) 35)) := by
    cases A with
    | none =>
      obtain rfl := hA rfl
      refine ⟨_, _, ?_, (run_append_nil V 22 o.type 35 i0 _ Tryd.underlying22 hi hz0 ⟨W.heap.size, 0, none⟩ 1 1 [.string p.f0, .string p.f1] (by rw [hz1]; rfl) hnews zb26 zb26 (by rw [hz2]; decide)).trans (by simp [flatP]; exact ⟨rfl, rfl⟩)⟩
      exact grownCap_ge _ _ _ _
    | some ad =>
      refine ⟨_, _, ?_, (run_append_grow V 22 o.type 35 i0 _ Tryd.underlying22 hi hz0 ad xs.length xs.length (flatP xs) (by rw [hz1, flatP_len]) (olds_at hCV) ⟨W.heap.size, 0, none⟩ 1 1 [.string p.f0, .string p.f1] (by rw [hz1]; rfl) hnews zb26 zb26 (growslice_fits_succ (by rw [hz2]; omega) (by rw [hz2]; decide))).trans (by rw [flatP_snoc]; simp; exact ⟨rfl, rfl⟩)⟩
      exact grownCap_ge _ _ _ _
  obtain ⟨c1, zs, hc1, hrun⟩ := key
  refine wpList_plain hgd fun K hK => ?_
  unfold Oper.wp execOp
  simp only [ho, resolve, invoke, builtin, Sem.run_bind, Sem.run_pure, Result.andThen_ok, List.map_toArray, List.map_cons, List.map_nil, hs, hx, hrun]
  have hlen : (xs ++ [p]).length = xs.length + 1 := by simp
  have hb2 : Below W.heap.size W (V.drew.alloc (.cells ((flatP (xs ++ [p])).toArray ++ zs) 35)) := below_alloc (below_drew1 hbV) _
  have := h (some ⟨V.heap.size, 0, none⟩) c1 (V.drew.alloc (.cells ((flatP (xs ++ [p])).toArray ++ zs) 35)) (row_of_block (heap_alloc_new _ _) zb26) zb26 ((HB.trans (hb2.mono hbase))) hb2
  rw [hlen] at this
  exact hK _ _ this
end Go.Proofs.YtaopopnlnohnpaaDoor.O
/- Orpr -/
namespace Go.Proofs.YtaopopnlnohnpaaDoor.P
open Go.Proofs.YtaopopnlnohnpaaDoor.B
open Go.RowKit Go.Proofs.YtaopopnlnohnpaaDoorW.PrintWords Go.Proofs.YtaopopnlnohnpaaDoorW.PrintLast Go.Proofs.YtaopopnlnohnpaaDoorW.PrintMore
attribute [local go_sem] str_leq str_gtr str_geq max2_int min2_int max_two min_two max_three min_three max_four min_four
set_option linter.unusedVariables false
set_option linter.unusedSimpArgs false
open Go.Proofs.YtaopopnlnohnpaaDoor.O
/-- A row at a slice, its length told. -/
def RowAt (W : World) (v : Value) (l : List (S35)) : Prop := ∃ A c, v = .slice A l.length c ∧ Kd.C k35 W A l.length l ∧ l.length ≤ c
def slices_Clip.f (l : List (S35)) : Option (List (S35)) := some l
mutual
def response_Print.j0 : Nat → Bool → Int → List (S35) → ByteArray → Option (ByteArray × Int)
  | 0, _, _, _, _ => none
  | k + 1, x7, x136000, x136001, x136002 => if x7 = true then (some ((⟨#[]⟩ : ByteArray), 1)) else (if (x136002.size : Int) > 100000 then (some ((⟨#[]⟩ : ByteArray), 2)) else ((response_lengths.f k x136001).bind fun t138 => (if t138 > 0 then (some ((⟨#[]⟩ : ByteArray), 180)) else ((slices_Clip.f x136001).bind fun t139 => ((response_bare.f x136000).bind fun t142 => (if t142 = true then (response_Print.j1 k t139 x136000 x136001 x136002) else ((strconv_Itoa.f (x136002.size : Int)).bind fun t143 => (if t139.length < 4398046511104 then (response_Print.j1 k (t139 ++ [(⟨(⟨#[67, 111, 110, 116, 101, 110, 116, 45, 76, 101, 110, 103, 116, 104]⟩ : ByteArray), t143⟩ : S35)]) x136000 x136001 x136002) else (none)))))))))
def response_Print.j1 : Nat → List (S35) → Int → List (S35) → ByteArray → Option (ByteArray × Int)
  | 0, _, _, _, _ => none
  | k + 1, x4, x136000, x136001, x136002 => (field_Print.f k x4).bind fun bt147 => (if bt147.2 = 0 then ((response_first.f x136000).bind fun t149 => (if t149.size + 2 ≤ 9223372036854775807 then (if (t149 ++ (⟨#[13, 10]⟩ : ByteArray)).size + bt147.1.size ≤ 9223372036854775807 then (if ((t149 ++ (⟨#[13, 10]⟩ : ByteArray)) ++ bt147.1).size + x136002.size ≤ 9223372036854775807 then (some (((t149 ++ (⟨#[13, 10]⟩ : ByteArray)) ++ bt147.1) ++ x136002, 0)) else (none)) else (none)) else (none))) else (some ((⟨#[]⟩ : ByteArray), bt147.2)))
end
def response_Print.f (k : Nat) (a0_0 : Int) (l0_1 : List (S35)) (a0_2 : ByteArray) : Option (ByteArray × Int) := (response_Reason.f a0_0).bind fun t136 => (if t136.toList = ([] : List UInt8) then (response_Print.j0 k (t136.toList == ([] : List UInt8)) a0_0 l0_1 a0_2) else ((response_bare.f a0_0).bind fun t137 => (if t137 = true then (response_Print.j0 k (a0_2.toList != ([] : List UInt8)) a0_0 l0_1 a0_2) else (response_Print.j0 k false a0_0 l0_1 a0_2))))
def response_Print.T14 : Bool × List (List Nat × List Nat) := (true, [([], []), ([0], [0]), ([1], [1]), ([2], [2]), ([], []), ([3, 4], [3, 4]), ([], []), ([6], [6]), ([5, 7], [5, 7]), ([8, 2, 0, 1, 2, 3, 4, 5, 6, 7, 8], [8]), ([9, 0, 1, 2, 3, 4, 5, 6, 7, 8, 9], [])])
def response_Print.B14 : List Nat := [0, 1, 3, 7, 0, 31, 0, 64, 255, 511, 1023]
theorem response_Print.tab14 : rtab .any (opsOf Tryd.f8 14) = response_Print.T14 := by kernel_rfl
theorem response_Print.bits14 : waitsOk response_Print.T14.2 response_Print.B14 = true := by kernel_rfl
set_option maxHeartbeats 8000000 in
set_option maxRecDepth 100000 in
theorem response_Print.calls (k : Nat) (a0_0 : Int) (A0_1 : Option Addr) (c0_1 : Nat) (l0_1 : List (S35)) (a0_2 : ByteArray) (r1 : ByteArray) (r2 : Int) (w : World) (hr0_1 : Kd.C k35 w A0_1 l0_1.length l0_1) (hc0_1 : l0_1.length ≤ c0_1) (hG : Glob w) (h : response_Print.f k a0_0 l0_1 a0_2 = some (r1, r2)) :
    Calls Tryd.prog 8 #[.agg #[.int .i64 a0_0, .slice A0_1 l0_1.length c0_1, .string a0_2]] w fun e w' => e = .returned (.tuple #[.string r1, .int .i64 r2]) ∧ Below w.heap.size w w' := by
  have hu24 := Tryd.underlying24
  have hu35 := Tryd.underlying35
  have HR0_1 := Aside0.mk hr0_1
  have HC0_1 := Aside0.mk hc0_1
  clear hr0_1 hc0_1
  have HB := Aside0.mk (Below.refl w.heap.size w)
  have hGA := Aside0.mk hG
  clear hG
  have H : ((response_Reason.f a0_0).bind fun t136 => (if t136.toList = ([] : List UInt8) then (response_Print.j0 k (t136.toList == ([] : List UInt8)) a0_0 l0_1 a0_2) else ((response_bare.f a0_0).bind fun t137 => (if t137 = true then (response_Print.j0 k (a0_2.toList != ([] : List UInt8)) a0_0 l0_1 a0_2) else (response_Print.j0 k false a0_0 l0_1 a0_2))))) = some (r1, r2) := h
  clear h
  replace H := Option.bind_eq_some_iff.mp H
  obtain ⟨t136, A20, H⟩ := H
  replace H : (if t136.toList = ([] : List UInt8) then (response_Print.j0 k (t136.toList == ([] : List UInt8)) a0_0 l0_1 a0_2) else ((response_bare.f a0_0).bind fun t137 => (if t137 = true then (response_Print.j0 k (a0_2.toList != ([] : List UInt8)) a0_0 l0_1 a0_2) else (response_Print.j0 k false a0_0 l0_1 a0_2)))) = some (r1, r2) := H
  have A2 := Aside0.mk A20
  clear A20
  have HC3 := Aside0.mk H
  clear H
  go_enter Tryd.func8, Tryd.ntmps8
  go_upto_if 7 with (first | ((with_reducible refine gate_dst (N := 1) rfl ?_); refine box_event ?hg (N := 1) ?hd (cs := #[.int .i64 a0_0, .slice A0_1 l0_1.length c0_1, .string a0_2]) (t := 24) ?hr ?_; (case hd => rfl); (case hg => rfl); (case hr => first | (go_simp; done) | (go_simp; rfl)); intro gb135 hg w4 hbox hb; have n0_ := Aside0.mk (below_step zb0 hb); have n1_ := Aside0.mk (hbox); have n2_ := Aside0.mk ((by rw [hg]; exact (below_size zb0) : w.heap.size ≤ gb135)); have n3_ := Aside0.mk ((by rw [hg]; exact (below_size zb0) : w.heap.size ≤ gb135)); clear HB; have HB := n0_; have BK135 := n1_; have GW135 := n2_; have GE135 := n3_; clear n0_ n1_ n2_ n3_; clear hb hbox hg; have hcz5_0 : w4.cell? ⟨gb135, 0, none⟩ = some (.int .i64 a0_0) := (blk_cell BK135.out 0).trans rfl; have hcz5_1 : w4.cell? ⟨gb135, 1, none⟩ = some (.slice A0_1 l0_1.length c0_1) := (blk_cell BK135.out 1).trans rfl; have hcz5_2 : w4.cell? ⟨gb135, 2, none⟩ = some (.string a0_2) := (blk_cell BK135.out 2).trans rfl; have hfz5_0 := blk_frozen BK135.out 0; have hfz5_1 := blk_frozen BK135.out 1; have hfz5_2 := blk_frozen BK135.out 2) | ((with_reducible refine gate_callee (f := 7) rfl ?_); refine goesL_ (some 10) rfl rfl Tryd.func7 zb11 rfl #[.int .i64 a0_0] rfl zb1 ?_; (with_reducible refine (response_Reason.calls a0_0 t136 _ A2.out).mono ?_); rintro e w6 ⟨rfl, hb⟩; refine ⟨_, rfl, ?_⟩; have n0_ := Aside0.mk (blk_below (g := gb135) (o := .cells #[.int .i64 a0_0, .slice A0_1 l0_1.length c0_1, .string a0_2] 24 (0, 0)) zb24 hb); have n1_ := Aside0.mk (below_step zb10 hb); clear BK135; clear HB; have BK135 := n0_; have HB := n1_; clear n0_ n1_; (try clear hb); (try clear hb2); (try clear hk); (try clear hi)))
  (try simp only [Act.put, List.setIfInBounds_toArray, List.set_cons_zero, List.set_cons_succ])
  go_cut [7] (fun v7 wc => ∃ (kq : Nat) (x7_2 : Bool), v7 = .bool x7_2 ∧ Aside0 (response_Print.j0 kq x7_2 a0_0 l0_1 a0_2 = some (r1, r2)) ∧ Aside0 (kq ≤ k) ∧ Aside0 (wc.heap[gb135]? = some (.cells #[.int .i64 a0_0, (.slice A0_1 l0_1.length c0_1), .string a0_2] 24 (0, 0))) ∧ Aside0 (Below w.heap.size w wc))
  case first =>
    have H := HC3.out
    clear HC3
    by_cases c7 : t136.toList = ([] : List UInt8)
    · rw [if_pos c7] at H
      have c7b0 : (t136.toList == ([] : List UInt8)) = true := beq_iff_eq.mpr c7
      have c7b1 : (t136.toList != ([] : List UInt8)) = false := bne_eq_false_iff_eq.mpr c7
      have c7i : t136.toList.isEmpty = true := by simpa using c7
      try rw [c7i]
      clear c7
      (first | rw [c7b0] | (simp only [i64_w, i32_w]; rw [c7b0]) | skip)
      have H' := Aside0.mk H
      clear H
      go_wp2
      go_meet
      case rel => exact ⟨_, ((t136.toList == ([] : List UInt8))), zb19, H', ⟨by first | omega | exact Nat.le_refl _⟩, ⟨by (with_reducible repeat (first | refine blk_drewN ?_ _ | refine blk_drew ?_ | refine blk_alloc ?_ _)); exact BK135.out⟩, ⟨by repeat (first | (with_reducible first | exact HB.out | apply below_alloc | apply pw_below_drewN | apply below_drew1 | refine below_set ?_ GE135.out) | exact HB.out)⟩⟩
    · rw [if_neg c7] at H
      have c7b0 : (t136.toList == ([] : List UInt8)) = false := beq_eq_false_iff_ne.mpr c7
      have c7b1 : (t136.toList != ([] : List UInt8)) = true := bne_iff_ne.mpr c7
      have c7i : t136.toList.isEmpty = false := by simpa using c7
      try rw [c7i]
      (first | rw [c7b0] | (simp only [i64_w, i32_w]; rw [c7b0]) | skip)
      replace H := Option.bind_eq_some_iff.mp H
      obtain ⟨t137, A80, H⟩ := H
      replace H : (if t137 = true then (response_Print.j0 k (a0_2.toList != ([] : List UInt8)) a0_0 l0_1 a0_2) else (response_Print.j0 k false a0_0 l0_1 a0_2)) = some (r1, r2) := H
      have A8 := Aside0.mk A80
      clear A80
      by_cases c9 : t137 = true
      · subst c9
        replace H : (response_Print.j0 k (a0_2.toList != ([] : List UInt8)) a0_0 l0_1 a0_2) = some (r1, r2) := by rw [if_pos rfl] at H; exact H
        have H' := Aside0.mk H
        clear H
        have hcz10_0 : w6.cell? ⟨gb135, 0, none⟩ = some (.int .i64 a0_0) := (blk_cell BK135.out 0).trans rfl
        have hcz10_1 : w6.cell? ⟨gb135, 1, none⟩ = some (.slice A0_1 l0_1.length c0_1) := (blk_cell BK135.out 1).trans rfl
        have hcz10_2 : w6.cell? ⟨gb135, 2, none⟩ = some (.string a0_2) := (blk_cell BK135.out 2).trans rfl
        have hfz10_0 := blk_frozen BK135.out 0
        have hfz10_1 := blk_frozen BK135.out 1
        have hfz10_2 := blk_frozen BK135.out 2
        go_wp2_with (first | ((with_reducible refine gate_callee (f := 12) rfl ?_); refine goesL_ (some 14) rfl rfl Tryd.func12 zb11 rfl #[.int .i64 a0_0] rfl zb1 ?_; (with_reducible refine (response_bare.calls a0_0 true _ A8.out).mono ?_); rintro e w' ⟨rfl, ⟨nd, rfl⟩⟩; refine ⟨_, rfl, ?_⟩))
        go_meet
        case rel => exact ⟨_, ((a0_2.toList != ([] : List UInt8))), (by first | (cases a0_2.toList <;> rfl) | rfl | (simp; done) | (simp [*]; done)), H', ⟨by first | omega | exact Nat.le_refl _⟩, ⟨by (with_reducible repeat (first | refine blk_drewN ?_ _ | refine blk_drew ?_ | refine blk_alloc ?_ _)); exact BK135.out⟩, ⟨by repeat (first | (with_reducible first | exact HB.out | apply below_alloc | apply pw_below_drewN | apply below_drew1 | refine below_set ?_ GE135.out) | exact HB.out)⟩⟩
      · replace c9 := Bool.eq_false_iff.mpr c9
        subst c9
        replace H : (response_Print.j0 k false a0_0 l0_1 a0_2) = some (r1, r2) := by rw [if_neg (show ¬ (false = true) by decide)] at H; exact H
        have H' := Aside0.mk H
        clear H
        have hcz11_0 : w6.cell? ⟨gb135, 0, none⟩ = some (.int .i64 a0_0) := (blk_cell BK135.out 0).trans rfl
        have hcz11_1 : w6.cell? ⟨gb135, 1, none⟩ = some (.slice A0_1 l0_1.length c0_1) := (blk_cell BK135.out 1).trans rfl
        have hcz11_2 : w6.cell? ⟨gb135, 2, none⟩ = some (.string a0_2) := (blk_cell BK135.out 2).trans rfl
        have hfz11_0 := blk_frozen BK135.out 0
        have hfz11_1 := blk_frozen BK135.out 1
        have hfz11_2 := blk_frozen BK135.out 2
        go_wp2_with (first | ((with_reducible refine gate_callee (f := 12) rfl ?_); refine goesL_ (some 14) rfl rfl Tryd.func12 zb11 rfl #[.int .i64 a0_0] rfl zb1 ?_; (with_reducible refine (response_bare.calls a0_0 false _ A8.out).mono ?_); rintro e w' ⟨rfl, ⟨nd, rfl⟩⟩; refine ⟨_, rfl, ?_⟩))
        go_meet
        case rel => exact ⟨_, (false), zb19, H', ⟨by first | omega | exact Nat.le_refl _⟩, ⟨by (with_reducible repeat (first | refine blk_drewN ?_ _ | refine blk_drew ?_ | refine blk_alloc ?_ _)); exact BK135.out⟩, ⟨by repeat (first | (with_reducible first | exact HB.out | apply below_alloc | apply pw_below_drewN | apply below_drew1 | refine below_set ?_ GE135.out) | exact HB.out)⟩⟩
  case rest =>
    clear HC3
    try clear c1
    try clear p2
    try clear c7
    try clear c7b0
    try clear c7b1
    try clear c8
    try clear c9
    try clear hcz10_0
    try clear hcz10_1
    try clear hcz10_2
    try clear hcz11_0
    try clear hcz11_1
    try clear hcz11_2
    try clear hcz5_0
    try clear hcz5_1
    try clear hcz5_2
    try clear hfz10_0
    try clear hfz10_1
    try clear hfz10_2
    try clear hfz11_0
    try clear hfz11_1
    try clear hfz11_2
    try clear hfz5_0
    try clear hfz5_1
    try clear hfz5_2
    obtain ⟨kq, x7_2, rfl, HA, HJ2, BK135, HB⟩ := hcut
    cases kq with
    | zero => exact absurd HA.out (by simp [response_Print.j0])
    | succ kj2 =>
      have H := HA.out
      clear HA
      simp only [response_Print.j0] at H
      by_cases c12 : x7_2 = true
      · subst c12
        replace H : (some ((⟨#[]⟩ : ByteArray), 1)) = some (r1, r2) := by rw [if_pos rfl] at H; exact H
        simp only [Option.some.injEq, Prod.mk.injEq] at H
        obtain ⟨rfl, rfl⟩ := H
        go_wp2
        go_ret2
        exact ⟨zb8, zb10⟩
      · replace c12 := Bool.eq_false_iff.mpr c12
        subst c12
        replace H : (if (a0_2.size : Int) > 100000 then (some ((⟨#[]⟩ : ByteArray), 2)) else ((response_lengths.f kj2 l0_1).bind fun t138 => (if t138 > 0 then (some ((⟨#[]⟩ : ByteArray), 180)) else ((slices_Clip.f l0_1).bind fun t139 => ((response_bare.f a0_0).bind fun t142 => (if t142 = true then (response_Print.j1 kj2 t139 a0_0 l0_1 a0_2) else ((strconv_Itoa.f (a0_2.size : Int)).bind fun t143 => (if t139.length < 4398046511104 then (response_Print.j1 kj2 (t139 ++ [(⟨(⟨#[67, 111, 110, 116, 101, 110, 116, 45, 76, 101, 110, 103, 116, 104]⟩ : ByteArray), t143⟩ : S35)]) a0_0 l0_1 a0_2) else (none))))))))) = some (r1, r2) := by rw [if_neg (show ¬ (false = true) by decide)] at H; exact H
        by_cases c13 : (a0_2.size : Int) > 100000
        · rw [if_pos c13] at H
          have c13b0 : decide (100000 < (a0_2.size : Int)) = true := decide_eq_true c13
          have c13b1 : decide (100000 < a0_2.size) = true := decide_eq_true zb26
          clear c13
          simp only [Option.some.injEq, Prod.mk.injEq] at H
          obtain ⟨rfl, rfl⟩ := H
          have hcz14_0 : wc.cell? ⟨gb135, 0, none⟩ = some (.int .i64 a0_0) := (blk_cell BK135.out 0).trans rfl
          have hcz14_1 : wc.cell? ⟨gb135, 1, none⟩ = some (.slice A0_1 l0_1.length c0_1) := (blk_cell BK135.out 1).trans rfl
          have hcz14_2 : wc.cell? ⟨gb135, 2, none⟩ = some (.string a0_2) := (blk_cell BK135.out 2).trans rfl
          have hfz14_0 := blk_frozen BK135.out 0
          have hfz14_1 := blk_frozen BK135.out 1
          have hfz14_2 := blk_frozen BK135.out 2
          go_wp2
          go_ret2
          exact ⟨zb8, zb10⟩
        · rw [if_neg c13] at H
          have c13b0 : decide (100000 < (a0_2.size : Int)) = false := decide_eq_false c13
          have c13b1 : decide (100000 < a0_2.size) = false := decide_eq_false zb26
          clear c13
          replace H := Option.bind_eq_some_iff.mp H
          obtain ⟨t138, A150, H⟩ := H
          replace H : (if t138 > 0 then (some ((⟨#[]⟩ : ByteArray), 180)) else ((slices_Clip.f l0_1).bind fun t139 => ((response_bare.f a0_0).bind fun t142 => (if t142 = true then (response_Print.j1 kj2 t139 a0_0 l0_1 a0_2) else ((strconv_Itoa.f (a0_2.size : Int)).bind fun t143 => (if t139.length < 4398046511104 then (response_Print.j1 kj2 (t139 ++ [(⟨(⟨#[67, 111, 110, 116, 101, 110, 116, 45, 76, 101, 110, 103, 116, 104]⟩ : ByteArray), t143⟩ : S35)]) a0_0 l0_1 a0_2) else (none))))))) = some (r1, r2) := H
          have A15 := Aside0.mk A150
          clear A150
          by_cases c16 : t138 > 0
          · rw [if_pos c16] at H
            have c16b0 : decide (0 < t138) = true := decide_eq_true c16
            clear c16
            simp only [Option.some.injEq, Prod.mk.injEq] at H
            obtain ⟨rfl, rfl⟩ := H
            have hcz17_0 : wc.cell? ⟨gb135, 0, none⟩ = some (.int .i64 a0_0) := (blk_cell BK135.out 0).trans rfl
            have hcz17_1 : wc.cell? ⟨gb135, 1, none⟩ = some (.slice A0_1 l0_1.length c0_1) := (blk_cell BK135.out 1).trans rfl
            have hcz17_2 : wc.cell? ⟨gb135, 2, none⟩ = some (.string a0_2) := (blk_cell BK135.out 2).trans rfl
            have hfz17_0 := blk_frozen BK135.out 0
            have hfz17_1 := blk_frozen BK135.out 1
            have hfz17_2 := blk_frozen BK135.out 2
            go_wp2_with (first | ((with_reducible refine gate_callee (f := 13) rfl ?_); refine goesL_ (some 28) rfl rfl Tryd.func13 zb11 rfl #[.slice A0_1 l0_1.length c0_1] rfl zb1 ?_; (with_reducible refine (response_lengths.calls kj2 _ _ l0_1 t138 _ ?side1 ?side2 A15.out).mono ?_); (case side1 => repeat (first | exact (Kd.C_below HR0_1.out HB.out) | (with_reducible refine Kd.C_alloc ?_ _) | (with_reducible refine Kd.C_drewN ?_ _) | (with_reducible refine Kd.C_drew ?_))); (case side2 => exact HC0_1.out); rintro e w18 ⟨rfl, hb⟩; refine ⟨_, rfl, ?_⟩; have n0_ := Aside0.mk (blk_below (g := gb135) (o := .cells #[.int .i64 a0_0, .slice A0_1 l0_1.length c0_1, .string a0_2] 24 (0, 0)) zb24 hb); have n1_ := Aside0.mk (below_step zb10 hb); clear BK135; clear HB; have BK135 := n0_; have HB := n1_; clear n0_ n1_; (try clear hb); (try clear hb2); (try clear hk); (try clear hi)))
            go_ret2
            exact ⟨zb8, zb10⟩
          · rw [if_neg c16] at H
            have c16b0 : decide (0 < t138) = false := decide_eq_false c16
            clear c16
            replace H := Option.bind_eq_some_iff.mp H
            obtain ⟨t139, A190, H⟩ := H
            replace H : ((response_bare.f a0_0).bind fun t142 => (if t142 = true then (response_Print.j1 kj2 t139 a0_0 l0_1 a0_2) else ((strconv_Itoa.f (a0_2.size : Int)).bind fun t143 => (if t139.length < 4398046511104 then (response_Print.j1 kj2 (t139 ++ [(⟨(⟨#[67, 111, 110, 116, 101, 110, 116, 45, 76, 101, 110, 103, 116, 104]⟩ : ByteArray), t143⟩ : S35)]) a0_0 l0_1 a0_2) else (none))))) = some (r1, r2) := H
            obtain rfl : l0_1 = t139 := Option.some.inj A190
            clear A190
            replace H := Option.bind_eq_some_iff.mp H
            obtain ⟨t142, A200, H⟩ := H
            replace H : (if t142 = true then (response_Print.j1 kj2 l0_1 a0_0 l0_1 a0_2) else ((strconv_Itoa.f (a0_2.size : Int)).bind fun t143 => (if l0_1.length < 4398046511104 then (response_Print.j1 kj2 (l0_1 ++ [(⟨(⟨#[67, 111, 110, 116, 101, 110, 116, 45, 76, 101, 110, 103, 116, 104]⟩ : ByteArray), t143⟩ : S35)]) a0_0 l0_1 a0_2) else (none)))) = some (r1, r2) := H
            have A20 := Aside0.mk A200
            clear A200
            have HC21 := Aside0.mk H
            clear H
            have hcz22_0 : wc.cell? ⟨gb135, 0, none⟩ = some (.int .i64 a0_0) := (blk_cell BK135.out 0).trans rfl
            have hcz22_1 : wc.cell? ⟨gb135, 1, none⟩ = some (.slice A0_1 l0_1.length c0_1) := (blk_cell BK135.out 1).trans rfl
            have hcz22_2 : wc.cell? ⟨gb135, 2, none⟩ = some (.string a0_2) := (blk_cell BK135.out 2).trans rfl
            have hfz22_0 := blk_frozen BK135.out 0
            have hfz22_1 := blk_frozen BK135.out 1
            have hfz22_2 := blk_frozen BK135.out 2
            go_upto_if 36 with (first | ((with_reducible refine gate_callee (f := 13) rfl ?_); refine goesL_ (some 28) rfl rfl Tryd.func13 zb11 rfl #[.slice A0_1 l0_1.length c0_1] rfl zb1 ?_; (with_reducible refine (response_lengths.calls kj2 _ _ l0_1 t138 _ ?side1 ?side2 A15.out).mono ?_); (case side1 => repeat (first | exact (Kd.C_below HR0_1.out HB.out) | (with_reducible refine Kd.C_alloc ?_ _) | (with_reducible refine Kd.C_drewN ?_ _) | (with_reducible refine Kd.C_drew ?_))); (case side2 => exact HC0_1.out); rintro e w23 ⟨rfl, hb⟩; refine ⟨_, rfl, ?_⟩; have n0_ := Aside0.mk (blk_below (g := gb135) (o := .cells #[.int .i64 a0_0, .slice A0_1 l0_1.length c0_1, .string a0_2] 24 (0, 0)) zb24 hb); have n1_ := Aside0.mk (below_step zb10 hb); clear BK135; clear HB; have BK135 := n0_; have HB := n1_; clear n0_ n1_; (try clear hb); (try clear hb2); (try clear hk); (try clear hi); have hcz24_0 : w23.cell? ⟨gb135, 0, none⟩ = some (.int .i64 a0_0) := (blk_cell BK135.out 0).trans rfl; have hcz24_1 : w23.cell? ⟨gb135, 1, none⟩ = some (.slice A0_1 l0_1.length c0_1) := (blk_cell BK135.out 1).trans rfl; have hcz24_2 : w23.cell? ⟨gb135, 2, none⟩ = some (.string a0_2) := (blk_cell BK135.out 2).trans rfl; have hfz24_0 := blk_frozen BK135.out 0; have hfz24_1 := blk_frozen BK135.out 1; have hfz24_2 := blk_frozen BK135.out 2) | ((with_reducible refine gate_callee (f := 14) rfl ?_); refine goesL_ (some 32) rfl rfl Tryd.func14 zb11 rfl #[.slice A0_1 l0_1.length c0_1] rfl zb1 ?_; (refine (slices_Clip.calls A0_1 l0_1.length c0_1 _ HC0_1.out HR0_1.out.2.1 (fun e_ => by rcases Nat.eq_zero_or_pos l0_1.length with h_ | h_; exact h_; obtain ⟨_, e2_, _⟩ := HR0_1.out.2.2 h_; rw [e_] at e2_; cases e2_)).mono ?_); rintro e w' ⟨rfl, ⟨nd, rfl⟩⟩; refine ⟨_, rfl, ?_⟩) | ((with_reducible refine gate_callee (f := 12) rfl ?_); refine goesL_ (some 35) rfl rfl Tryd.func12 zb11 rfl #[.int .i64 a0_0] rfl zb1 ?_; (with_reducible refine (response_bare.calls a0_0 t142 _ A20.out).mono ?_); rintro e w' ⟨rfl, ⟨nd, rfl⟩⟩; refine ⟨_, rfl, ?_⟩))
            (try simp only [Act.put, List.setIfInBounds_toArray, List.set_cons_zero, List.set_cons_succ])
            go_cut [4] (fun v4 wc => ∃ (kq : Nat) (x4_20 : List (S35)), Aside0 (response_Print.j1 kq x4_20 a0_0 l0_1 a0_2 = some (r1, r2)) ∧ Aside0 (kq ≤ kj2) ∧ Aside0 (RowAt wc v4 x4_20) ∧ Aside0 (wc.heap[gb135]? = some (.cells #[.int .i64 a0_0, (.slice A0_1 l0_1.length c0_1), .string a0_2] 24 (0, 0))) ∧ Aside0 (Below w.heap.size w wc))
            case first =>
              have H := HC21.out
              clear HC21
              by_cases c27 : t142 = true
              · subst c27
                replace H : (response_Print.j1 kj2 l0_1 a0_0 l0_1 a0_2) = some (r1, r2) := by rw [if_pos rfl] at H; exact H
                have H' := Aside0.mk H
                clear H
                go_wp2
                go_meet
                case rel => exact ⟨_, (l0_1), H', ⟨by have := HJ2.out; first | omega | exact Nat.le_refl _⟩, ⟨⟨_, _, rfl, by repeat (first | exact (Kd.C_below HR0_1.out HB.out) | (with_reducible refine Kd.C_alloc ?_ _) | (with_reducible refine Kd.C_drewN ?_ _) | (with_reducible refine Kd.C_drew ?_)), Nat.le_refl _⟩⟩, ⟨by (with_reducible repeat (first | refine blk_drewN ?_ _ | refine blk_drew ?_ | refine blk_alloc ?_ _)); exact BK135.out⟩, ⟨by repeat (first | (with_reducible first | exact HB.out | apply below_alloc | apply pw_below_drewN | apply below_drew1 | refine below_set ?_ GE135.out) | exact HB.out)⟩⟩
              · replace c27 := Bool.eq_false_iff.mpr c27
                subst c27
                replace H : ((strconv_Itoa.f (a0_2.size : Int)).bind fun t143 => (if l0_1.length < 4398046511104 then (response_Print.j1 kj2 (l0_1 ++ [(⟨(⟨#[67, 111, 110, 116, 101, 110, 116, 45, 76, 101, 110, 103, 116, 104]⟩ : ByteArray), t143⟩ : S35)]) a0_0 l0_1 a0_2) else (none))) = some (r1, r2) := by rw [if_neg (show ¬ (false = true) by decide)] at H; exact H
                replace H := Option.bind_eq_some_iff.mp H
                obtain ⟨t143, A280, H⟩ := H
                replace H : (if l0_1.length < 4398046511104 then (response_Print.j1 kj2 (l0_1 ++ [(⟨(⟨#[67, 111, 110, 116, 101, 110, 116, 45, 76, 101, 110, 103, 116, 104]⟩ : ByteArray), t143⟩ : S35)]) a0_0 l0_1 a0_2) else (none)) = some (r1, r2) := H
                have A28 := Aside0.mk A280
                clear A280
                by_cases c29 : l0_1.length < 4398046511104
                · rw [if_pos c29] at H
                  have LMc29 := Aside0.mk c29
                  clear c29
                  obtain ⟨y144, hy144⟩ : ∃ y_ : List (S35), y_ = (l0_1 ++ [(⟨(⟨#[67, 111, 110, 116, 101, 110, 116, 45, 76, 101, 110, 103, 116, 104]⟩ : ByteArray), t143⟩ : S35)]) := ⟨_, rfl⟩
                  replace H : (response_Print.j1 kj2 y144 a0_0 l0_1 a0_2) = some (r1, r2) := by first | (rw [hy144]; with_reducible exact H) | (have H2_ := (Option.bind_some _ _).symm.trans H; rw [hy144]; with_reducible exact H2_) | (have H2_ := (Option.bind_some _ _).symm.trans H; with_reducible exact H2_) | with_reducible exact H | (rw [hy144]; exact H) | exact H
                  have Ny144 := Aside0.mk hy144
                  clear hy144
                  have H' := Aside0.mk H
                  clear H
                  have hcz30_0 : w23.cell? ⟨gb135, 0, none⟩ = some (.int .i64 a0_0) := (blk_cell BK135.out 0).trans rfl
                  have hcz30_1 : w23.cell? ⟨gb135, 1, none⟩ = some (.slice A0_1 l0_1.length c0_1) := (blk_cell BK135.out 1).trans rfl
                  have hcz30_2 : w23.cell? ⟨gb135, 2, none⟩ = some (.string a0_2) := (blk_cell BK135.out 2).trans rfl
                  have hfz30_0 := blk_frozen BK135.out 0
                  have hfz30_1 := blk_frozen BK135.out 1
                  have hfz30_2 := blk_frozen BK135.out 2
                  go_wp2_with (first | ((with_reducible refine gate_callee (f := 15) rfl ?_); refine goesL_ (some 41) rfl rfl Tryd.func15 zb11 rfl #[.int .i64 (a0_2.size : Int)] rfl zb1 ?_; (with_reducible refine (strconv_Itoa.calls (a0_2.size : Int) t143 _ ?side1 A28.out).mono ?_); (case side1 => exact Glob.below hGA.out zb10); rintro e w31 ⟨rfl, hb⟩; refine ⟨_, rfl, ?_⟩; have n0_ := Aside0.mk True.intro; have n1_ := Aside0.mk (blk_below (g := gb135) (o := .cells #[.int .i64 a0_0, .slice A0_1 l0_1.length c0_1, .string a0_2] 24 (0, 0)) zb24 hb); have n2_ := Aside0.mk (below_step zb10 hb); clear BK135; clear HB; have HO141 := n0_; have BK135 := n1_; have HB := n2_; clear n0_ n1_ n2_; (try clear hb); (try clear hb2); (try clear hk); (try clear hi)) | ((with_reducible refine gate_builtin (b := .append) (xs := #[.tmp 37, .tmp 43]) rfl ?_); at_builtin; refine clip_append (w0 := w) w.heap.size rfl (.tmp 37) (.tmp 43) rfl A0_1 l0_1 (⟨(⟨#[67, 111, 110, 116, 101, 110, 116, 45, 76, 101, 110, 103, 116, 104]⟩ : ByteArray), t143⟩ : S35) rfl rfl ?aC ?aN ?aB ?aS ?aL ?_; (case aC => repeat (first | exact (Kd.C_below HR0_1.out HB.out) | (with_reducible refine Kd.C_alloc ?_ _) | (with_reducible refine Kd.C_drewN ?_ _) | (with_reducible refine Kd.C_drew ?_))); (case aN => exact fun e_ => List.eq_nil_of_length_eq_zero ((fun e_ => by rcases Nat.eq_zero_or_pos l0_1.length with h_ | h_; exact h_; obtain ⟨_, e2_, _⟩ := HR0_1.out.2.2 h_; rw [e_] at e2_; cases e2_) e_)); (case aB => exact zb10); (case aS => exact (below_size zb10)); (case aL => have := LMc29.out; omega); intro A1_ c1_ w32 hC_ hL_ hb hb2; rw [← Ny144.out] at hC_ hL_ ⊢; have n0_ := Aside0.mk (blk_below (g := gb135) (o := .cells #[.int .i64 a0_0, .slice A0_1 l0_1.length c0_1, .string a0_2] 24 (0, 0)) zb24 hb2); have n1_ := Aside0.mk hb; have HCr := Aside0.mk hC_; have HLr := Aside0.mk hL_; clear BK135; clear HB; have BK135 := n0_; have HB := n1_; clear n0_ n1_ hC_ hL_ hb hb2))
                  go_meet
                  case rel => exact ⟨_, (y144), H', ⟨by have := HJ2.out; first | omega | exact Nat.le_refl _⟩, ⟨⟨A1_, c1_, rfl, by repeat (first | exact HCr.out | (with_reducible refine Kd.C_alloc ?_ _) | (with_reducible refine Kd.C_drewN ?_ _) | (with_reducible refine Kd.C_drew ?_)), HLr.out⟩⟩, ⟨by (with_reducible repeat (first | refine blk_drewN ?_ _ | refine blk_drew ?_ | refine blk_alloc ?_ _)); exact BK135.out⟩, ⟨by repeat (first | (with_reducible first | exact HB.out | apply below_alloc | apply pw_below_drewN | apply below_drew1 | refine below_set ?_ GE135.out) | exact HB.out)⟩⟩
                · rw [if_neg c29] at H
                  exact absurd H (by simp)
            case rest =>
              clear HC21
              try clear c1
              try clear c2
              try clear p2
              try clear c7
              try clear c7b0
              try clear c7b1
              try clear c8
              try clear c9
              try clear c12
              try clear c13
              try clear c13b0
              try clear c13b1
              try clear c14
              try clear c15
              try clear c16
              try clear c16b0
              try clear c27
              try clear c29
              try clear hcz10_0
              try clear hcz10_1
              try clear hcz10_2
              try clear hcz11_0
              try clear hcz11_1
              try clear hcz11_2
              try clear hcz14_0
              try clear hcz14_1
              try clear hcz14_2
              try clear hcz17_0
              try clear hcz17_1
              try clear hcz17_2
              try clear hcz22_0
              try clear hcz22_1
              try clear hcz22_2
              try clear hcz24_0
              try clear hcz24_1
              try clear hcz24_2
              try clear hcz26_0
              try clear hcz26_1
              try clear hcz26_2
              try clear hcz30_0
              try clear hcz30_1
              try clear hcz30_2
              try clear hcz5_0
              try clear hcz5_1
              try clear hcz5_2
              try clear hfz10_0
              try clear hfz10_1
              try clear hfz10_2
              try clear hfz11_0
              try clear hfz11_1
              try clear hfz11_2
              try clear hfz14_0
              try clear hfz14_1
              try clear hfz14_2
              try clear hfz17_0
              try clear hfz17_1
              try clear hfz17_2
              try clear hfz22_0
              try clear hfz22_1
              try clear hfz22_2
              try clear hfz24_0
              try clear hfz24_1
              try clear hfz24_2
              try clear hfz26_0
              try clear hfz26_1
              try clear hfz26_2
              try clear hfz30_0
              try clear hfz30_1
              try clear hfz30_2
              try clear hfz5_0
              try clear hfz5_1
              try clear hfz5_2
              try clear p2
              obtain ⟨kq, x4_20, HA, HJ20, HO_4, BK135, HB⟩ := hcut
              cases kq with
              | zero => exact absurd HA.out (by simp [response_Print.j1])
              | succ kj20 =>
                have H := HA.out
                clear HA
                simp only [response_Print.j1] at H
                replace H := Option.bind_eq_some_iff.mp H
                obtain ⟨⟨t147, t148⟩, A330, H⟩ := H
                replace H : (if t148 = 0 then ((response_first.f a0_0).bind fun t149 => (if t149.size + 2 ≤ 9223372036854775807 then (if (t149 ++ (⟨#[13, 10]⟩ : ByteArray)).size + t147.size ≤ 9223372036854775807 then (if ((t149 ++ (⟨#[13, 10]⟩ : ByteArray)) ++ t147).size + a0_2.size ≤ 9223372036854775807 then (some (((t149 ++ (⟨#[13, 10]⟩ : ByteArray)) ++ t147) ++ a0_2, 0)) else (none)) else (none)) else (none))) else (some ((⟨#[]⟩ : ByteArray), t148))) = some (r1, r2) := H
                have A33 := Aside0.mk A330
                clear A330
                by_cases c34 : t148 = 0
                · rw [if_pos c34] at H
                  have c34b0 : (t148 == 0) = true := beq_iff_eq.mpr c34
                  have c34b1 : (t148 != 0) = false := bne_eq_false_iff_eq.mpr c34
                  clear c34
                  replace H := Option.bind_eq_some_iff.mp H
                  obtain ⟨t149, A350, H⟩ := H
                  replace H : (if t149.size + 2 ≤ 9223372036854775807 then (if (t149 ++ (⟨#[13, 10]⟩ : ByteArray)).size + t147.size ≤ 9223372036854775807 then (if ((t149 ++ (⟨#[13, 10]⟩ : ByteArray)) ++ t147).size + a0_2.size ≤ 9223372036854775807 then (some (((t149 ++ (⟨#[13, 10]⟩ : ByteArray)) ++ t147) ++ a0_2, 0)) else (none)) else (none)) else (none)) = some (r1, r2) := H
                  have A35 := Aside0.mk A350
                  clear A350
                  by_cases c36 : t149.size + 2 ≤ 9223372036854775807
                  · rw [if_pos c36] at H
                    have c36b0 := eq_true c36
                    have c36b1 : decide (t149.size + 2 ≤ 9223372036854775807) = true := decide_eq_true c36
                    try have c36b2 : (9223372036854775807 < t149.size + 2) = False := eq_false (Nat.not_lt.2 c36)
                    by_cases c37 : (t149 ++ (⟨#[13, 10]⟩ : ByteArray)).size + t147.size ≤ 9223372036854775807
                    · rw [if_pos c37] at H
                      have c37b0 := eq_true c37
                      have c37b1 : decide ((t149 ++ (⟨#[13, 10]⟩ : ByteArray)).size + t147.size ≤ 9223372036854775807) = true := decide_eq_true c37
                      try have c37b2 : (9223372036854775807 < (t149 ++ (⟨#[13, 10]⟩ : ByteArray)).size + t147.size) = False := eq_false (Nat.not_lt.2 c37)
                      obtain ⟨nc37, hc37⟩ : ∃ n_ : Nat, n_ = (t149 ++ (⟨#[13, 10]⟩ : ByteArray)).size + t147.size := ⟨_, rfl⟩
                      have c37m0 : nc37 ≤ 9223372036854775807 := by rw [hc37]; exact c37
                      (first | simp [go_sem, c36b0] at hc37 | simp [go_sem] at hc37 | skip)
                      rw [hc37] at c37m0
                      have c37m1 := eq_false (Nat.not_lt.2 c37m0)
                      have c37m2 := decide_eq_true c37m0
                      clear hc37 c37m0
                      by_cases c38 : ((t149 ++ (⟨#[13, 10]⟩ : ByteArray)) ++ t147).size + a0_2.size ≤ 9223372036854775807
                      · rw [if_pos c38] at H
                        have c38b0 := eq_true c38
                        have c38b1 : decide (((t149 ++ (⟨#[13, 10]⟩ : ByteArray)) ++ t147).size + a0_2.size ≤ 9223372036854775807) = true := decide_eq_true c38
                        try have c38b2 : (9223372036854775807 < ((t149 ++ (⟨#[13, 10]⟩ : ByteArray)) ++ t147).size + a0_2.size) = False := eq_false (Nat.not_lt.2 c38)
                        obtain ⟨nc38, hc38⟩ : ∃ n_ : Nat, n_ = ((t149 ++ (⟨#[13, 10]⟩ : ByteArray)) ++ t147).size + a0_2.size := ⟨_, rfl⟩
                        have c38m0 : nc38 ≤ 9223372036854775807 := by rw [hc38]; exact c38
                        (first | simp [go_sem, c36b0, c37b0] at hc38 | simp [go_sem] at hc38 | skip)
                        rw [hc38] at c38m0
                        have c38m1 := eq_false (Nat.not_lt.2 c38m0)
                        have c38m2 := decide_eq_true c38m0
                        clear hc38 c38m0
                        simp only [Option.some.injEq, Prod.mk.injEq] at H
                        obtain ⟨rfl, rfl⟩ := H
                        obtain ⟨Ao39, co39, eo39, hC_, hL_⟩ := HO_4.out
                        subst eo39
                        have HCr := Aside0.mk hC_
                        have HLr := Aside0.mk hL_
                        clear hC_ hL_ HO_4
                        have HO_4 := Aside0.mk True.intro
                        try go_wp2_with (first | ((with_reducible refine gate_callee (f := 16) rfl ?_); refine goesL_ (some 47) rfl rfl Tryd.func16 zb11 rfl #[.slice Ao39 x4_20.length co39] rfl zb1 ?_; (with_reducible refine (field_Print.calls kj20 _ _ x4_20 t147 t148 _ ?side1 ?side2 A33.out).mono ?_); (case side1 => repeat (first | exact HCr.out | (with_reducible refine Kd.C_alloc ?_ _) | (with_reducible refine Kd.C_drewN ?_ _) | (with_reducible refine Kd.C_drew ?_))); (case side2 => exact HLr.out); rintro e w40 ⟨rfl, hb⟩; refine ⟨_, rfl, ?_⟩; have n0_ := Aside0.mk True.intro; have n1_ := Aside0.mk (blk_below (g := gb135) (o := .cells #[.int .i64 a0_0, .slice A0_1 l0_1.length c0_1, .string a0_2] 24 (0, 0)) zb24 hb); have n2_ := Aside0.mk (below_step zb10 hb); clear HO_4; clear BK135; clear HB; have HO_4 := n0_; have BK135 := n1_; have HB := n2_; clear n0_ n1_ n2_; (try clear hb); (try clear hb2); (try clear hk); (try clear hi)))
                        have n0_ := Aside0.mk True.intro
                        have n1_ := Aside0.mk (blk_drew BK135.out)
                        have n2_ := Aside0.mk (below_drew1 HB.out)
                        clear HO_4
                        clear BK135
                        clear HB
                        have HO_4 := n0_
                        have BK135 := n1_
                        have HB := n2_
                        clear n0_ n1_ n2_
                        refine start_ (n := 11) (S := fun w' => w'.cell? ⟨gb135, 0, none⟩ = some (.int .i64 a0_0) ∧ w'.cell? ⟨gb135, 1, none⟩ = some (.slice A0_1 l0_1.length c0_1) ∧ w'.cell? ⟨gb135, 2, none⟩ = some (.string a0_2)) (ds := []) #[false, false, false, false, false, false, false, false, false, false, false] zb11 rfl rfl ⟨(blk_cell BK135.out 0).trans rfl, (blk_cell BK135.out 1).trans rfl, (blk_cell BK135.out 2).trans rfl⟩ (fun hHeld => ?_); refine with_tabW response_Print.tab14 response_Print.bits14 (fun HT_ HW_ => ?_)
                        generalize w40.drew = w41 at BK135 HB hHeld ⊢
                        refine pure_ (i := 0) (N := some 53) (v := ?_) (a' := ?_) #[true, false, false, false, false, false, false, false, false, false, false] rfl rfl (any_of HT_.out zb11) (fun _ _ _ h => h) (Or.inl ⟨by rfl, ?_⟩) ?_ ?_
                        rotate_left
                        · intro w'
                          go_simp
                          first | with_reducible rfl | (rw [if_neg zb2])
                        rotate_left
                        · simp only [Act.put, List.setIfInBounds_toArray, List.set_cons_zero, List.set_cons_succ, i64_w, i32_w]
                          rfl
                        refine pure_ (i := 4) (N := some 57) (v := ?_) (a' := ?_) #[true, false, false, false, true, false, false, false, false, false, false] rfl rfl (any_of HT_.out zb11) (fun _ _ _ h => h) (Or.inl ⟨by rfl, ?_⟩) ?_ ?_
                        rotate_left
                        · intro w'
                          go_simp
                          first | with_reducible rfl | (rw [if_neg zb2])
                        rotate_left
                        · simp only [Act.put, List.setIfInBounds_toArray, List.set_cons_zero, List.set_cons_succ, i64_w, i32_w]
                          rfl
                        refine pure_ (i := 6) (N := some 59) (v := ?_) (a' := ?_) #[true, false, false, false, true, false, true, false, false, false, false] rfl rfl (any_of HT_.out zb11) (fun _ _ _ h => h) (Or.inl ⟨by rfl, ?_⟩) ?_ ?_
                        rotate_left
                        · intro w'
                          go_simp
                          first | with_reducible rfl | (rw [if_neg zb2])
                        rotate_left
                        · simp only [Act.put, List.setIfInBounds_toArray, List.set_cons_zero, List.set_cons_succ, i64_w, i32_w]
                          rfl
                        refine take_ (i := 1) (N := some 54) (v := ?_) (a' := ?_) #[true, true, false, false, true, false, true, false, false, false, false] rfl rfl (take_ofW HT_.out HW_.out zb11) (fun _ _ _ h => h) (Or.inl ⟨by rfl, ?_⟩) hHeld ?_ ?_
                        rotate_left
                        · rintro w' ⟨s0, s1, s2⟩
                          go_simp
                          first | with_reducible rfl | (rw [if_neg zb2])
                        rotate_left
                        · simp only [Act.put, List.setIfInBounds_toArray, List.set_cons_zero, List.set_cons_succ, i64_w, i32_w]
                          rfl
                        refine take_ (i := 7) (N := some 60) (v := ?_) (a' := ?_) #[true, true, false, false, true, false, true, true, false, false, false] rfl rfl (take_ofW HT_.out HW_.out zb11) (fun _ _ _ h => h) (Or.inl ⟨by rfl, ?_⟩) hHeld ?_ ?_
                        rotate_left
                        · rintro w' ⟨s0, s1, s2⟩
                          go_simp
                          first | with_reducible rfl | (rw [if_neg zb2])
                        rotate_left
                        · simp only [Act.put, List.setIfInBounds_toArray, List.set_cons_zero, List.set_cons_succ, i64_w, i32_w]
                          rfl
                        refine one_ (i := 2) (N := some 55) #[true, true, true, false, true, false, true, true, false, false, false] rfl rfl (one_of HT_.out zb11) zb32 (fun K hK => ?_)
                        refine goes_ Tryd.func17 zb11 rfl #[.int .i64 a0_0] (by rfl) rfl rfl zb1 ?_
                        with_reducible refine (response_first.calls a0_0 t149 _ ?side1 A35.out).mono ?_
                        (case side1 => exact Glob.below hGA.out zb10)
                        rintro e w42 ⟨rfl, hb⟩
                        refine ⟨_, rfl, ?_⟩
                        have n0_ := Aside0.mk True.intro
                        have n1_ := Aside0.mk (blk_below (g := gb135) (o := .cells #[.int .i64 a0_0, .slice A0_1 l0_1.length c0_1, .string a0_2] 24 (0, 0)) zb24 hb)
                        have n2_ := Aside0.mk (below_step zb10 hb)
                        clear HO_4
                        clear BK135
                        clear HB
                        have HO_4 := n0_
                        have BK135 := n1_
                        have HB := n2_
                        clear n0_ n1_ n2_
                        (try clear hb)
                        (try clear hb2)
                        (try clear hk)
                        (try clear hi)
                        refine hK.out _ _ ⟨(blk_cell BK135.out 0).trans rfl, (blk_cell BK135.out 1).trans rfl, (blk_cell BK135.out 2).trans rfl⟩ (fun hHeld => ?_)
                        clear hK K
                        refine norm_ (a' := ?_) ?_ ?_
                        rotate_left
                        · show Act.put _ (some 55) _ = _
                          simp only [Act.put, List.setIfInBounds_toArray, List.set_cons_zero, List.set_cons_succ, i64_w, i32_w]
                          rfl
                        refine pure_ (i := 3) (N := some 56) (v := ?_) (a' := ?_) #[true, true, true, true, true, false, true, true, false, false, false] rfl rfl (any_of HT_.out zb11) (fun _ _ _ h => h) (Or.inl ⟨by rfl, ?_⟩) ?_ ?_
                        rotate_left
                        · intro w'
                          go_simp
                          first | with_reducible rfl | (rw [if_neg zb2])
                        rotate_left
                        · simp only [Act.put, List.setIfInBounds_toArray, List.set_cons_zero, List.set_cons_succ, i64_w, i32_w]
                          rfl
                        refine pure_ (i := 5) (N := some 58) (v := ?_) (a' := ?_) #[true, true, true, true, true, true, true, true, false, false, false] rfl rfl (any_of HT_.out zb11) (fun _ _ _ h => h) (Or.inl ⟨by rfl, ?_⟩) ?_ ?_
                        rotate_left
                        · intro w'
                          go_simp
                          first | with_reducible rfl | (rw [if_neg zb2])
                        rotate_left
                        · simp only [Act.put, List.setIfInBounds_toArray, List.set_cons_zero, List.set_cons_succ, i64_w, i32_w]
                          rfl
                        refine pure_ (i := 8) (N := some 61) (v := ?_) (a' := ?_) #[true, true, true, true, true, true, true, true, true, false, false] rfl rfl (any_of HT_.out zb11) (fun _ _ _ h => h) (Or.inl ⟨by rfl, ?_⟩) ?_ ?_
                        rotate_left
                        · intro w'
                          go_simp
                          first | with_reducible rfl | (rw [if_neg zb2])
                        rotate_left
                        · simp only [Act.put, List.setIfInBounds_toArray, List.set_cons_zero, List.set_cons_succ, i64_w, i32_w]
                          rfl
                        refine pure_ (i := 9) (N := some 2) (v := ?_) (a' := ?_) #[true, true, true, true, true, true, true, true, true, true, false] rfl rfl (any_of HT_.out zb11) (fun _ _ _ h => h) (Or.inl ⟨by rfl, ?_⟩) ?_ ?_
                        rotate_left
                        · intro w'
                          go_simp
                          first | with_reducible rfl | (rw [if_neg zb2])
                        rotate_left
                        · simp only [Act.put, List.setIfInBounds_toArray, List.set_cons_zero, List.set_cons_succ, i64_w, i32_w]
                          rfl
                        refine pure_ (i := 10) (N := some 3) (v := ?_) (a' := ?_) #[true, true, true, true, true, true, true, true, true, true, true] rfl rfl (any_of HT_.out zb11) (fun _ _ _ h => h) (Or.inl ⟨by rfl, ?_⟩) ?_ ?_
                        rotate_left
                        · intro w'
                          go_simp
                          first | with_reducible rfl | (rw [if_neg zb2])
                        rotate_left
                        · simp only [Act.put, List.setIfInBounds_toArray, List.set_cons_zero, List.set_cons_succ, i64_w, i32_w]
                          rfl
                        refine done_ (done_of HT_.out zb11) ?_
                        try go_wp2
                        go_ret2
                        exact ⟨zb8, zb10⟩
                      · rw [if_neg c38] at H
                        exact absurd H (by simp)
                    · rw [if_neg c37] at H
                      exact absurd H (by simp)
                  · rw [if_neg c36] at H
                    exact absurd H (by simp)
                · rw [if_neg c34] at H
                  have c34b0 : (t148 == 0) = false := beq_eq_false_iff_ne.mpr c34
                  have c34b1 : (t148 != 0) = true := bne_iff_ne.mpr c34
                  simp only [Option.some.injEq, Prod.mk.injEq] at H
                  obtain ⟨rfl, rfl⟩ := H
                  obtain ⟨Ao43, co43, eo43, hC_, hL_⟩ := HO_4.out
                  subst eo43
                  have HCr := Aside0.mk hC_
                  have HLr := Aside0.mk hL_
                  clear hC_ hL_ HO_4
                  have HO_4 := Aside0.mk True.intro
                  go_wp2_with (first | ((with_reducible refine gate_callee (f := 16) rfl ?_); refine goesL_ (some 47) rfl rfl Tryd.func16 zb11 rfl #[.slice Ao43 x4_20.length co43] rfl zb1 ?_; (with_reducible refine (field_Print.calls kj20 _ _ x4_20 t147 t148 _ ?side1 ?side2 A33.out).mono ?_); (case side1 => repeat (first | exact HCr.out | (with_reducible refine Kd.C_alloc ?_ _) | (with_reducible refine Kd.C_drewN ?_ _) | (with_reducible refine Kd.C_drew ?_))); (case side2 => exact HLr.out); rintro e w44 ⟨rfl, hb⟩; refine ⟨_, rfl, ?_⟩; have n0_ := Aside0.mk True.intro; have n1_ := Aside0.mk (blk_below (g := gb135) (o := .cells #[.int .i64 a0_0, .slice A0_1 l0_1.length c0_1, .string a0_2] 24 (0, 0)) zb24 hb); have n2_ := Aside0.mk (below_step zb10 hb); clear HO_4; clear BK135; clear HB; have HO_4 := n0_; have BK135 := n1_; have HB := n2_; clear n0_ n1_ n2_; (try clear hb); (try clear hb2); (try clear hk); (try clear hi)))
                  go_ret2
                  exact ⟨zb8, zb10⟩
def broadsheetlaw21_awake.f (k : Nat)  : Option (Bool) := (response_Print.f k 404 ([] : List (S35)) (⟨#[]⟩ : ByteArray)).bind fun bt173 => ((response_Parse.f k bt173.1).bind fun bt175 => ((response_Print.f k 1 ([] : List (S35)) (⟨#[]⟩ : ByteArray)).bind fun bt182 => (if bt173.2 = 0 then (if bt173.1.toList = ([72, 84, 84, 80, 47, 49, 46, 49, 32, 52, 48, 52, 32, 78, 111, 116, 32, 70, 111, 117, 110, 100, 13, 10, 67, 111, 110, 116, 101, 110, 116, 45, 76, 101, 110, 103, 116, 104, 58, 32, 48, 13, 10, 13, 10] : List UInt8) then (if bt175.2.2.2 = 0 then (if bt175.1 = 404 then (some (bt182.2 == 1)) else (some false)) else (some false)) else (some false)) else (some false))))
set_option maxHeartbeats 8000000 in
set_option maxRecDepth 100000 in
theorem broadsheetlaw21_awake.calls (k : Nat)  (r : Bool) (w : World) (hG : Glob w) (h : broadsheetlaw21_awake.f k  = some r) (hr : r = true) :
  Calls Tryd.prog 5 #[] w fun e w' => e = .returned (.bool r) ∧ Below w.heap.size w w' := by
 have hu24 := Tryd.underlying24
 have HB := Aside0.mk (Below.refl w.heap.size w)
 have hGA := Aside0.mk hG
 clear hG
 have H : ((response_Print.f k 404 ([] : List (S35)) (⟨#[]⟩ : ByteArray)).bind fun bt173 => ((response_Parse.f k bt173.1).bind fun bt175 => ((response_Print.f k 1 ([] : List (S35)) (⟨#[]⟩ : ByteArray)).bind fun bt182 => (if bt173.2 = 0 then (if bt173.1.toList = ([72, 84, 84, 80, 47, 49, 46, 49, 32, 52, 48, 52, 32, 78, 111, 116, 32, 70, 111, 117, 110, 100, 13, 10, 67, 111, 110, 116, 101, 110, 116, 45, 76, 101, 110, 103, 116, 104, 58, 32, 48, 13, 10, 13, 10] : List UInt8) then (if bt175.2.2.2 = 0 then (if bt175.1 = 404 then (some (bt182.2 == 1)) else (some false)) else (some false)) else (some false)) else (some false))))) = some r := h
 clear h
 replace H := Option.bind_eq_some_iff.mp H
 obtain ⟨⟨t173, t174⟩, A10, H⟩ := H
 replace H : ((response_Parse.f k t173).bind fun bt175 => ((response_Print.f k 1 ([] : List (S35)) (⟨#[]⟩ : ByteArray)).bind fun bt182 => (if t174 = 0 then (if t173.toList = ([72, 84, 84, 80, 47, 49, 46, 49, 32, 52, 48, 52, 32, 78, 111, 116, 32, 70, 111, 117, 110, 100, 13, 10, 67, 111, 110, 116, 101, 110, 116, 45, 76, 101, 110, 103, 116, 104, 58, 32, 48, 13, 10, 13, 10] : List UInt8) then (if bt175.2.2.2 = 0 then (if bt175.1 = 404 then (some (bt182.2 == 1)) else (some false)) else (some false)) else (some false)) else (some false)))) = some r := H
 have A1 := Aside0.mk A10
 clear A10
 replace H := Option.bind_eq_some_iff.mp H
 obtain ⟨⟨t175, t176, t179, t180⟩, A20, H⟩ := H
 replace H : ((response_Print.f k 1 ([] : List (S35)) (⟨#[]⟩ : ByteArray)).bind fun bt182 => (if t174 = 0 then (if t173.toList = ([72, 84, 84, 80, 47, 49, 46, 49, 32, 52, 48, 52, 32, 78, 111, 116, 32, 70, 111, 117, 110, 100, 13, 10, 67, 111, 110, 116, 101, 110, 116, 45, 76, 101, 110, 103, 116, 104, 58, 32, 48, 13, 10, 13, 10] : List UInt8) then (if t180 = 0 then (if t175 = 404 then (some (bt182.2 == 1)) else (some false)) else (some false)) else (some false)) else (some false))) = some r := H
 have A2 := Aside0.mk A20
 clear A20
 replace H := Option.bind_eq_some_iff.mp H
 obtain ⟨⟨t182, t183⟩, A30, H⟩ := H
 replace H : (if t174 = 0 then (if t173.toList = ([72, 84, 84, 80, 47, 49, 46, 49, 32, 52, 48, 52, 32, 78, 111, 116, 32, 70, 111, 117, 110, 100, 13, 10, 67, 111, 110, 116, 101, 110, 116, 45, 76, 101, 110, 103, 116, 104, 58, 32, 48, 13, 10, 13, 10] : List UInt8) then (if t180 = 0 then (if t175 = 404 then (some (t183 == 1)) else (some false)) else (some false)) else (some false)) else (some false)) = some r := H
 have A3 := Aside0.mk A30
 clear A30
 by_cases c4 : t174 = 0
 ·rw [if_pos c4] at H
  have c4b0 : (t174 == 0) = true := beq_iff_eq.mpr c4
  have c4b1 : (t174 != 0) = false := bne_eq_false_iff_eq.mpr c4
  clear c4
  by_cases c5 : t173.toList = ([72, 84, 84, 80, 47, 49, 46, 49, 32, 52, 48, 52, 32, 78, 111, 116, 32, 70, 111, 117, 110, 100, 13, 10, 67, 111, 110, 116, 101, 110, 116, 45, 76, 101, 110, 103, 116, 104, 58, 32, 48, 13, 10, 13, 10] : List UInt8)
  ·rw [if_pos c5] at H
   have c5b0 : (t173.toList == ([72, 84, 84, 80, 47, 49, 46, 49, 32, 52, 48, 52, 32, 78, 111, 116, 32, 70, 111, 117, 110, 100, 13, 10, 67, 111, 110, 116, 101, 110, 116, 45, 76, 101, 110, 103, 116, 104, 58, 32, 48, 13, 10, 13, 10] : List UInt8)) = true := beq_iff_eq.mpr c5
   have c5b1 : (t173.toList != ([72, 84, 84, 80, 47, 49, 46, 49, 32, 52, 48, 52, 32, 78, 111, 116, 32, 70, 111, 117, 110, 100, 13, 10, 67, 111, 110, 116, 101, 110, 116, 45, 76, 101, 110, 103, 116, 104, 58, 32, 48, 13, 10, 13, 10] : List UInt8)) = false := bne_eq_false_iff_eq.mpr c5
   clear c5
   by_cases c6 : t180 = 0
   ·rw [if_pos c6] at H
    have c6b0 : (t180 == 0) = true := beq_iff_eq.mpr c6
    have c6b1 : (t180 != 0) = false := bne_eq_false_iff_eq.mpr c6
    clear c6
    by_cases c7 : t175 = 404
    ·rw [if_pos c7] at H
     have c7b0 : (t175 == 404) = true := beq_iff_eq.mpr c7
     have c7b1 : (t175 != 404) = false := bne_eq_false_iff_eq.mpr c7
     clear c7
     obtain rfl := Option.some.inj H
     go_enter Tryd.func5, Tryd.ntmps5
     go_wp2_with (first | ((with_reducible refine gate_callee (f := 8) rfl ?_); refine goesL_ (some 9) rfl rfl Tryd.func8 zb11 rfl #[.agg #[.int .i64 404, .slice none 0 0, .string (⟨#[]⟩ : ByteArray)]] rfl zb1 ?_; (refine (response_Print.calls k 404 _ _ ([] : List (S35)) (⟨#[]⟩ : ByteArray) t173 t174 _ ?side1 ?side2 ?side3 A1.out).mono ?_); (case side1 => exact Kd.C_nil _ _); (case side2 => exact Nat.le_refl _); (case side3 => exact Glob.below hGA.out zb0); rintro e w8 ⟨rfl, hb⟩; refine ⟨_, rfl, ?_⟩; have n0_ := Aside0.mk (below_step zb0 hb); clear HB; have HB := n0_; clear n0_; (try clear hb); (try clear hb2); (try clear hk); (try clear hi)) | ((with_reducible refine gate_callee (f := 9) rfl ?_); refine goesL_ (some 14) rfl rfl Tryd.func9 zb11 rfl #[.string t173] rfl zb1 ?_; (with_reducible refine (response_Parse.calls k t173 t175 t176 t179 t180 _ ?side1 A2.out).mono ?_); (case side1 => exact Glob.below hGA.out zb0); rintro e w9 ⟨v177, rfl, ho0, hb⟩; refine ⟨_, rfl, ?_⟩; have n0_ := Aside0.mk (Kd.R_lower ho0 (below_size zb0)); have n1_ := Aside0.mk (below_step zb0 hb); clear HB; have HO178 := n0_; have HB := n1_; clear n0_ n1_; (try clear hb); (try clear hb2); (try clear hk); (try clear hi); (try clear ho0)) | ((with_reducible refine gate_dst (N := 3) rfl ?_); refine box_event ?hg (N := 3) ?hd (cs := #[.int .i64 0, .slice none 0 0, .string (⟨#[]⟩ : ByteArray)]) (t := 24) ?hr ?_; (case hd => rfl); (case hg => rfl); (case hr => first | (go_simp; done) | (go_simp; rfl)); intro gb181 hg w10 hbox hb; have n0_ := Aside0.mk (Kd.R_below (by (with_reducible repeat (first | apply Kd.R_alloc | apply Kd.R_drewN | apply Kd.R_drew)); exact HO178.out) hb); have n1_ := Aside0.mk (below_step zb0 hb); have n2_ := Aside0.mk (hbox); have n3_ := Aside0.mk ((by rw [hg]; exact (below_size zb0) : w.heap.size ≤ gb181)); have n4_ := Aside0.mk ((by rw [hg]; exact (below_size zb0) : w.heap.size ≤ gb181)); clear HO178; clear HB; have HO178 := n0_; have HB := n1_; have BK181 := n2_; have GW181 := n3_; have GE181 := n4_; clear n0_ n1_ n2_ n3_ n4_; clear hb hbox hg; have hcz11_0 : w10.cell? ⟨gb181, 0, none⟩ = some (.int .i64 0) := (blk_cell BK181.out 0).trans rfl; have hcz11_1 : w10.cell? ⟨gb181, 1, none⟩ = some (.slice none 0 0) := (blk_cell BK181.out 1).trans rfl; have hcz11_2 : w10.cell? ⟨gb181, 2, none⟩ = some (.string (⟨#[]⟩ : ByteArray)) := (blk_cell BK181.out 2).trans rfl; have hfz11_0 := blk_frozen BK181.out 0; have hfz11_1 := blk_frozen BK181.out 1; have hfz11_2 := blk_frozen BK181.out 2; obtain ⟨Ao12, co12, eo12⟩ := Kd.R_slice HO178.out; subst eo12) | ((with_reducible refine gate_callee (f := 8) rfl ?_); refine goesL_ (some 19) rfl rfl Tryd.func8 zb11 rfl #[.agg #[.int .i64 1, .slice none 0 0, .string (⟨#[]⟩ : ByteArray)]] rfl zb1 ?_; (refine (response_Print.calls k 1 _ _ ([] : List (S35)) (⟨#[]⟩ : ByteArray) t182 t183 _ ?side1 ?side2 ?side3 A3.out).mono ?_); (case side1 => exact Kd.C_nil _ _); (case side2 => exact Nat.le_refl _); (case side3 => exact Glob.below hGA.out zb34); rintro e w13 ⟨rfl, hb⟩; refine ⟨_, rfl, ?_⟩; have n0_ := Aside0.mk (Kd.R_below (by (with_reducible repeat (first | apply Kd.R_alloc | apply Kd.R_drewN | apply Kd.R_drew)); exact (Kd.R_mono (Kd.R_far (p := ⟨gb181, 2, none⟩) (Kd.R_far (p := ⟨gb181, 1, none⟩) (Kd.R_far (p := ⟨gb181, 0, none⟩) (Kd.R_types HO178.out BK181.out zb32) (fun _ hk => hk.2) (.int .i64 t175)) (fun _ hk => hk.2) (.slice Ao12 t176.length co12)) (fun _ hk => hk.2) (.string t179)) (fun _ h_ => h_.1))) hb); have n1_ := Aside0.mk (blk_below (g := gb181) (o := .cells #[.int .i64 t175, .slice Ao12 t176.length co12, .string t179] 24 (0, 0)) (by (with_reducible repeat (first | refine blk_drewN ?_ _ | refine blk_drew ?_ | refine blk_alloc ?_ _)); refine blk_put (cs := #[.int .i64 t175, .slice Ao12 t176.length co12, .string (⟨#[]⟩ : ByteArray)]) ?_ 2 _ rfl; (with_reducible repeat (first | refine blk_drewN ?_ _ | refine blk_drew ?_ | refine blk_alloc ?_ _)); refine blk_put (cs := #[.int .i64 t175, .slice none 0 0, .string (⟨#[]⟩ : ByteArray)]) ?_ 1 _ rfl; (with_reducible repeat (first | refine blk_drewN ?_ _ | refine blk_drew ?_ | refine blk_alloc ?_ _)); refine blk_put (cs := #[.int .i64 0, .slice none 0 0, .string (⟨#[]⟩ : ByteArray)]) ?_ 0 _ rfl; (with_reducible repeat (first | refine blk_drewN ?_ _ | refine blk_drew ?_ | refine blk_alloc ?_ _)); exact BK181.out) hb); have n2_ := Aside0.mk (below_step zb34 hb); clear HO178; clear BK181; clear HB; have HO178 := n0_; have BK181 := n1_; have HB := n2_; clear n0_ n1_ n2_; (try clear hb); (try clear hb2); (try clear hk); (try clear hi); have hcz14_0 : w13.cell? ⟨gb181, 0, none⟩ = some (.int .i64 t175) := (blk_cell BK181.out 0).trans rfl; have hcz14_1 : w13.cell? ⟨gb181, 1, none⟩ = some (.slice Ao12 t176.length co12) := (blk_cell BK181.out 1).trans rfl; have hcz14_2 : w13.cell? ⟨gb181, 2, none⟩ = some (.string t179) := (blk_cell BK181.out 2).trans rfl; have hfz14_0 := blk_frozen BK181.out 0; have hfz14_1 := blk_frozen BK181.out 1; have hfz14_2 := blk_frozen BK181.out 2))
     go_ret
     exact ⟨zb8, zb34⟩
    ·rw [if_neg c7] at H
     have c7b0 : (t175 == 404) = false := beq_eq_false_iff_ne.mpr c7
     have c7b1 : (t175 != 404) = true := bne_iff_ne.mpr c7
     exact absurd ((Option.some.inj H).trans hr) zb32
   ·rw [if_neg c6] at H
    have c6b0 : (t180 == 0) = false := beq_eq_false_iff_ne.mpr c6
    have c6b1 : (t180 != 0) = true := bne_iff_ne.mpr c6
    exact absurd ((Option.some.inj H).trans hr) zb32
  ·rw [if_neg c5] at H
   have c5b0 : (t173.toList == ([72, 84, 84, 80, 47, 49, 46, 49, 32, 52, 48, 52, 32, 78, 111, 116, 32, 70, 111, 117, 110, 100, 13, 10, 67, 111, 110, 116, 101, 110, 116, 45, 76, 101, 110, 103, 116, 104, 58, 32, 48, 13, 10, 13, 10] : List UInt8)) = false := beq_eq_false_iff_ne.mpr c5
   have c5b1 : (t173.toList != ([72, 84, 84, 80, 47, 49, 46, 49, 32, 52, 48, 52, 32, 78, 111, 116, 32, 70, 111, 117, 110, 100, 13, 10, 67, 111, 110, 116, 101, 110, 116, 45, 76, 101, 110, 103, 116, 104, 58, 32, 48, 13, 10, 13, 10] : List UInt8)) = true := bne_iff_ne.mpr c5
   exact absurd ((Option.some.inj H).trans hr) zb32
 ·rw [if_neg c4] at H
  have c4b0 : (t174 == 0) = false := beq_eq_false_iff_ne.mpr c4
  have c4b1 : (t174 != 0) = true := bne_iff_ne.mpr c4
  exact absurd ((Option.some.inj H).trans hr) zb32
end Go.Proofs.YtaopopnlnohnpaaDoor.P
/- Px13 -/
namespace Go.Proofs.YtaopopnlnohnpaaDoor.P
open Go.Proofs.YtaopopnlnohnpaaDoor.B
open Go.RowKit Go.Proofs.YtaopopnlnohnpaaDoorW.PrintWords Go.Proofs.YtaopopnlnohnpaaDoorW.PrintLast Go.Proofs.YtaopopnlnohnpaaDoorW.PrintMore
attribute [local go_sem] str_leq str_gtr str_geq max2_int min2_int max_two min_two max_three min_three max_four min_four
set_option linter.unusedVariables false
set_option linter.unusedSimpArgs false
def broadsheetlaw21_few.l0 : Nat → Int → Int → Int → List (S35) → ByteArray → Option (Bool)
  | 0, _, _, _, _, _ => none
  | k + 1, x3, x4, x185000, x185001, x185002 => if x4 < (x185001.length : Int) then (if x3 ≤ 3000 then (if 0 ≤ x4 then (broadsheetlaw21_few.l0 k (wrap64 ((wrap64 ((wrap64 (x3 + (((rd_T35 x185001 x4).f0).size : Int))) + (((rd_T35 x185001 x4).f1).size : Int))) + 1)) (wrap64 (x4 + 1)) x185000 x185001 x185002) else (none)) else (some (decide (x3 ≤ 3000)))) else (some (decide (x3 ≤ 3000)))
def broadsheetlaw21_few.f (k : Nat) (a0_0 : Int) (l0_1 : List (S35)) (a0_2 : ByteArray) : Option (Bool) := broadsheetlaw21_few.l0 k (a0_2.size : Int) 0 a0_0 l0_1 a0_2
set_option maxHeartbeats 8000000 in
set_option maxRecDepth 100000 in
theorem broadsheetlaw21_few.calls (k : Nat) (a0_0 : Int) (A0_1 : Option Addr) (c0_1 : Nat) (l0_1 : List (S35)) (a0_2 : ByteArray) (r : Bool) (w : World) (hr0_1 : Kd.C k35 w A0_1 l0_1.length l0_1) (hc0_1 : l0_1.length ≤ c0_1) (h : broadsheetlaw21_few.f k a0_0 l0_1 a0_2 = some r) :
  Calls Tryd.prog 6 #[.agg #[.int .i64 a0_0, .slice A0_1 l0_1.length c0_1, .string a0_2]] w fun e w' => e = .returned (.bool r) ∧ Below w.heap.size w w' := by
 have hu24 := Tryd.underlying24
 have HR0_1 := Aside0.mk hr0_1
 have HC0_1 := Aside0.mk hc0_1
 clear hr0_1 hc0_1
 have HB := Aside0.mk (Below.refl w.heap.size w)
 have H : (broadsheetlaw21_few.l0 k (a0_2.size : Int) 0 a0_0 l0_1 a0_2) = some r := h
 clear h
 have H' := Aside0.mk H
 clear H
 go_enter Tryd.func6, Tryd.ntmps6
 go_wp2_with (first | ((with_reducible refine gate_dst (N := 1) rfl ?_); refine box_event ?hg (N := 1) ?hd (cs := #[.int .i64 a0_0, .slice A0_1 l0_1.length c0_1, .string a0_2]) (t := 24) ?hr ?_; (case hd => rfl); (case hg => rfl); (case hr => first | (go_simp; done) | (go_simp; rfl)); intro gb184 hg w2 hbox hb; have n0_ := Aside0.mk (below_step zb0 hb); have n1_ := Aside0.mk (hbox); have n2_ := Aside0.mk ((by rw [hg]; exact (below_size zb0) : w.heap.size ≤ gb184)); have n3_ := Aside0.mk ((by rw [hg]; exact (below_size zb0) : w.heap.size ≤ gb184)); clear HB; have HB := n0_; have BK184 := n1_; have GW184 := n2_; have GE184 := n3_; clear n0_ n1_ n2_ n3_; clear hb hbox hg; have hcz3_0 : w2.cell? ⟨gb184, 0, none⟩ = some (.int .i64 a0_0) := (blk_cell BK184.out 0).trans rfl; have hcz3_1 : w2.cell? ⟨gb184, 1, none⟩ = some (.slice A0_1 l0_1.length c0_1) := (blk_cell BK184.out 1).trans rfl; have hcz3_2 : w2.cell? ⟨gb184, 2, none⟩ = some (.string a0_2) := (blk_cell BK184.out 2).trans rfl; have hfz3_0 := blk_frozen BK184.out 0; have hfz3_1 := blk_frozen BK184.out 1; have hfz3_2 := blk_frozen BK184.out 2))
 repeat (go_quiet (first | ((with_reducible refine gate_dst (N := 1) rfl ?_); refine box_event ?hg (N := 1) ?hd (cs := #[.int .i64 a0_0, .slice A0_1 l0_1.length c0_1, .string a0_2]) (t := 24) ?hr ?_; (case hd => rfl); (case hg => rfl); (case hr => first | (go_simp; done) | (go_simp; rfl)); intro gb184 hg w2 hbox hb; have n0_ := Aside0.mk (below_step zb0 hb); have n1_ := Aside0.mk (hbox); have n2_ := Aside0.mk ((by rw [hg]; exact (below_size zb0) : w.heap.size ≤ gb184)); have n3_ := Aside0.mk ((by rw [hg]; exact (below_size zb0) : w.heap.size ≤ gb184)); clear HB; have HB := n0_; have BK184 := n1_; have GW184 := n2_; have GE184 := n3_; clear n0_ n1_ n2_ n3_; clear hb hbox hg; have hcz3_0 : w2.cell? ⟨gb184, 0, none⟩ = some (.int .i64 a0_0) := (blk_cell BK184.out 0).trans rfl; have hcz3_1 : w2.cell? ⟨gb184, 1, none⟩ = some (.slice A0_1 l0_1.length c0_1) := (blk_cell BK184.out 1).trans rfl; have hcz3_2 : w2.cell? ⟨gb184, 2, none⟩ = some (.string a0_2) := (blk_cell BK184.out 2).trans rfl; have hfz3_0 := blk_frozen BK184.out 0; have hfz3_1 := blk_frozen BK184.out 1; have hfz3_2 := blk_frozen BK184.out 2)); try go_wp2_with (first | ((with_reducible refine gate_dst (N := 1) rfl ?_); refine box_event ?hg (N := 1) ?hd (cs := #[.int .i64 a0_0, .slice A0_1 l0_1.length c0_1, .string a0_2]) (t := 24) ?hr ?_; (case hd => rfl); (case hg => rfl); (case hr => first | (go_simp; done) | (go_simp; rfl)); intro gb184 hg w2 hbox hb; have n0_ := Aside0.mk (below_step zb0 hb); have n1_ := Aside0.mk (hbox); have n2_ := Aside0.mk ((by rw [hg]; exact (below_size zb0) : w.heap.size ≤ gb184)); have n3_ := Aside0.mk ((by rw [hg]; exact (below_size zb0) : w.heap.size ≤ gb184)); clear HB; have HB := n0_; have BK184 := n1_; have GW184 := n2_; have GE184 := n3_; clear n0_ n1_ n2_ n3_; clear hb hbox hg; have hcz3_0 : w2.cell? ⟨gb184, 0, none⟩ = some (.int .i64 a0_0) := (blk_cell BK184.out 0).trans rfl; have hcz3_1 : w2.cell? ⟨gb184, 1, none⟩ = some (.slice A0_1 l0_1.length c0_1) := (blk_cell BK184.out 1).trans rfl; have hcz3_2 : w2.cell? ⟨gb184, 2, none⟩ = some (.string a0_2) := (blk_cell BK184.out 2).trans rfl; have hfz3_0 := blk_frozen BK184.out 0; have hfz3_1 := blk_frozen BK184.out 1; have hfz3_2 := blk_frozen BK184.out 2)))
 first | go_loopg [3, 4] k (fun kq v3 v4 w' => ∃ (x3_1 : Int) (x4_1 : Int), v3 = .int .i64 x3_1 ∧ v4 = .int .i64 x4_1 ∧ Aside0 (broadsheetlaw21_few.l0 kq x3_1 x4_1 a0_0 l0_1 a0_2 = some r) ∧ Aside0 (kq ≤ k) ∧ Aside0 (w'.heap[gb184]? = some (.cells #[.int .i64 a0_0, (.slice A0_1 l0_1.length c0_1), .string a0_2] 24 (0, 0))) ∧ Aside0 (Below w.heap.size w w')) | (go_simp; go_loopg [3, 4] k (fun kq v3 v4 w' => ∃ (x3_1 : Int) (x4_1 : Int), v3 = .int .i64 x3_1 ∧ v4 = .int .i64 x4_1 ∧ Aside0 (broadsheetlaw21_few.l0 kq x3_1 x4_1 a0_0 l0_1 a0_2 = some r) ∧ Aside0 (kq ≤ k) ∧ Aside0 (w'.heap[gb184]? = some (.cells #[.int .i64 a0_0, (.slice A0_1 l0_1.length c0_1), .string a0_2] 24 (0, 0))) ∧ Aside0 (Below w.heap.size w w')))
 case atStart => exact ⟨((a0_2.size : Int)), (0), zb19, zb19, H', ⟨Nat.le_refl _⟩, ⟨by (with_reducible repeat (first | refine blk_drewN ?_ _ | refine blk_drew ?_ | refine blk_alloc ?_ _)); exact BK184.out⟩, ⟨by repeat (first | (with_reducible first | exact HB.out | apply below_alloc | apply pw_below_drewN | apply below_drew1 | refine below_set ?_ GE184.out) | exact HB.out)⟩⟩
 case round =>
  clear H'
  try clear p2
  try clear hcz3_0
  try clear hcz3_1
  try clear hcz3_2
  try clear hfz3_0
  try clear hfz3_1
  try clear hfz3_2
  obtain ⟨x3_1, x4_1, rfl, rfl, HA, HK1, BK184, HB⟩ := hrel
  cases gk with
  | zero => exact absurd HA.out (by simp [broadsheetlaw21_few.l0])
  | succ k1 =>
   have H := HA.out
   clear HA
   simp only [broadsheetlaw21_few.l0] at H
   by_cases c4 : x4_1 < (l0_1.length : Int)
   ·rw [if_pos c4] at H
    have c4b0 : decide (x4_1 < (l0_1.length : Int)) = true := decide_eq_true c4
    clear c4
    by_cases c5 : x3_1 ≤ 3000
    ·rw [if_pos c5] at H
     have c5b0 : decide (x3_1 ≤ 3000) = true := decide_eq_true c5
     clear c5
     by_cases c6 : 0 ≤ x4_1
     ·rw [if_pos c6] at H
      have c6b0 : decide (0 ≤ x4_1) = true := decide_eq_true c6
      clear c6
      have H' := Aside0.mk H
      clear H
      have hcz7_0 : wr.cell? ⟨gb184, 0, none⟩ = some (.int .i64 a0_0) := (blk_cell BK184.out 0).trans rfl
      have hcz7_1 : wr.cell? ⟨gb184, 1, none⟩ = some (.slice A0_1 l0_1.length c0_1) := (blk_cell BK184.out 1).trans rfl
      have hcz7_2 : wr.cell? ⟨gb184, 2, none⟩ = some (.string a0_2) := (blk_cell BK184.out 2).trans rfl
      have hfz7_0 := blk_frozen BK184.out 0
      have hfz7_1 := blk_frozen BK184.out 1
      have hfz7_2 := blk_frozen BK184.out 2
      have p185 : 0 ≤ (x4_1 : Int) := of_decide_eq_true zb12
      have q185 : x4_1 < (l0_1.length : Int) := of_decide_eq_true zb12
      obtain ⟨ad185, e185, hx185_0, hx185_1⟩ := at_T35 HR0_1.out x4_1 p185 q185
      cases e185
      replace hx185_0 := (HB.out.cell (World.block_lt_of_cell? w _ hx185_0)).trans hx185_0
      replace hx185_1 := (HB.out.cell (World.block_lt_of_cell? w _ hx185_1)).trans hx185_1
      replace p185 := eq_true p185
      replace q185 := eq_true q185
      have p186 : 0 ≤ (x4_1 : Int) := of_decide_eq_true zb12
      have q186 : x4_1 < (l0_1.length : Int) := of_decide_eq_true zb12
      obtain ⟨ad186, e186, hx186_0, hx186_1⟩ := at_T35 HR0_1.out x4_1 p186 q186
      obtain rfl : ad185 = ad186 := (by injection e186)
      replace hx186_0 := (HB.out.cell (World.block_lt_of_cell? w _ hx186_0)).trans hx186_0
      replace hx186_1 := (HB.out.cell (World.block_lt_of_cell? w _ hx186_1)).trans hx186_1
      replace p186 := eq_true p186
      replace q186 := eq_true q186
      go_wp2
      repeat (go_quiet (fail); try go_wp2)
      go_roundg k1
      case measure => have := HK1.out; omega
      case rel => exact ⟨(wrap64 ((wrap64 ((wrap64 (x3_1 + (((rd_T35 l0_1 x4_1).f0).size : Int))) + (((rd_T35 l0_1 x4_1).f1).size : Int))) + 1)), (wrap64 (x4_1 + 1)), zb19, zb19, H', ⟨by have := HK1.out; omega⟩, ⟨by (with_reducible repeat (first | refine blk_drewN ?_ _ | refine blk_drew ?_ | refine blk_alloc ?_ _)); exact BK184.out⟩, ⟨by repeat (first | (with_reducible first | exact HB.out | apply below_alloc | apply pw_below_drewN | apply below_drew1 | refine below_set ?_ GE184.out) | exact HB.out)⟩⟩
     ·rw [if_neg c6] at H
      exact absurd H (by simp)
    ·rw [if_neg c5] at H
     have c5b0 : decide (x3_1 ≤ 3000) = false := decide_eq_false c5
     clear c5
     obtain rfl := Option.some.inj H
     have hcz8_0 : wr.cell? ⟨gb184, 0, none⟩ = some (.int .i64 a0_0) := (blk_cell BK184.out 0).trans rfl
     have hcz8_1 : wr.cell? ⟨gb184, 1, none⟩ = some (.slice A0_1 l0_1.length c0_1) := (blk_cell BK184.out 1).trans rfl
     have hcz8_2 : wr.cell? ⟨gb184, 2, none⟩ = some (.string a0_2) := (blk_cell BK184.out 2).trans rfl
     have hfz8_0 := blk_frozen BK184.out 0
     have hfz8_1 := blk_frozen BK184.out 1
     have hfz8_2 := blk_frozen BK184.out 2
     go_wp2
     repeat (go_quiet (fail); try go_wp2)
     go_ret
     exact ⟨zb8, (by repeat (first | (with_reducible first | exact HB.out | apply below_alloc | apply pw_below_drewN | apply below_drew1 | refine below_set ?_ GE184.out) | exact HB.out))⟩
   ·rw [if_neg c4] at H
    have c4b0 : decide (x4_1 < (l0_1.length : Int)) = false := decide_eq_false c4
    clear c4
    obtain rfl := Option.some.inj H
    have hcz9_0 : wr.cell? ⟨gb184, 0, none⟩ = some (.int .i64 a0_0) := (blk_cell BK184.out 0).trans rfl
    have hcz9_1 : wr.cell? ⟨gb184, 1, none⟩ = some (.slice A0_1 l0_1.length c0_1) := (blk_cell BK184.out 1).trans rfl
    have hcz9_2 : wr.cell? ⟨gb184, 2, none⟩ = some (.string a0_2) := (blk_cell BK184.out 2).trans rfl
    have hfz9_0 := blk_frozen BK184.out 0
    have hfz9_1 := blk_frozen BK184.out 1
    have hfz9_2 := blk_frozen BK184.out 2
    go_wp2
    repeat (go_quiet (fail); try go_wp2)
    go_ret
    exact ⟨zb8, (by repeat (first | (with_reducible first | exact HB.out | apply below_alloc | apply pw_below_drewN | apply below_drew1 | refine below_set ?_ GE184.out) | exact HB.out))⟩
def broadsheetref07_Lower.l0 : Nat → ByteArray → List Int → Int → Option (ByteArray)
  | 0, _, _, _ => none
  | k + 1, x0, x3, x4 => if x4 < (x0.size : Int) then (if 0 ≤ x4 then (if (bt x0 x4) ≥ 65 then (if (bt x0 x4) ≤ 90 then (if x3.length < 140737488355328 then (broadsheetref07_Lower.l0 k x0 (x3 ++ [((bt x0 x4) + 32) % 256]) (wrap64 (x4 + 1))) else (none)) else (if x3.length < 140737488355328 then (broadsheetref07_Lower.l0 k x0 (x3 ++ [bt x0 x4]) (wrap64 (x4 + 1))) else (none))) else (if x3.length < 140737488355328 then (broadsheetref07_Lower.l0 k x0 (x3 ++ [bt x0 x4]) (wrap64 (x4 + 1))) else (none))) else (none)) else (some (strOfNums x3))
def broadsheetref07_Lower.f (k : Nat) (a0 : ByteArray) : Option (ByteArray) := broadsheetref07_Lower.l0 k a0 ([] : List Int) 0
set_option maxHeartbeats 8000000 in
set_option maxRecDepth 100000 in
theorem broadsheetref07_Lower.calls (k : Nat) (a0 : ByteArray) (r : ByteArray) (w : World) (h : broadsheetref07_Lower.f k a0 = some r) :
  Calls Tryd.prog 10 #[.string a0] w fun e w' => e = .returned (.string r) ∧ Below w.heap.size w w' := by
 have HB := Aside0.mk (Below.refl w.heap.size w)
 have H : (broadsheetref07_Lower.l0 k a0 ([] : List Int) 0) = some r := h
 clear h
 have H' := Aside0.mk H
 clear H
 go_enter Tryd.func10, Tryd.ntmps10
 go_wp2
 first | go_loopg [3, 4] k (fun kq v3 v4 w' => ∃ (x3_1 : List Int) (x4_1 : Int), v4 = .int .i64 x4_1 ∧ Aside0 (broadsheetref07_Lower.l0 kq a0 x3_1 x4_1 = some r) ∧ Aside0 (kq ≤ k) ∧ Aside0 (Kd.R (Kd.int .u8) 5 w' w.heap.size (fun _ => True) v3 x3_1) ∧ Aside0 (Below w.heap.size w w')) | (go_simp; go_loopg [3, 4] k (fun kq v3 v4 w' => ∃ (x3_1 : List Int) (x4_1 : Int), v4 = .int .i64 x4_1 ∧ Aside0 (broadsheetref07_Lower.l0 kq a0 x3_1 x4_1 = some r) ∧ Aside0 (kq ≤ k) ∧ Aside0 (Kd.R (Kd.int .u8) 5 w' w.heap.size (fun _ => True) v3 x3_1) ∧ Aside0 (Below w.heap.size w w')))
 case atStart => exact ⟨(([] : List Int)), (0), zb19, H', ⟨Nat.le_refl _⟩, ⟨by first | exact Kd.R_nil _ _ _ _ _ | exact Kd.N_nil _ _ _ _ _ | exact Kd.V_nil _ _ _ _ _ | exact Kd.Q_nil _ _ _ _ _ | exact Kd.S_nil _ _ _ _ _⟩, ⟨by repeat (first | (with_reducible first | exact HB.out | apply below_alloc | apply pw_below_drewN | apply below_drew1) | exact HB.out)⟩⟩
 case round =>
  clear H'
  try clear c1
  obtain ⟨x3_1, x4_1, rfl, HA, HK1, HO_3, HB⟩ := hrel
  cases gk with
  | zero => exact absurd HA.out (by simp [broadsheetref07_Lower.l0])
  | succ k1 =>
   have H := HA.out
   clear HA
   simp only [broadsheetref07_Lower.l0] at H
   by_cases c2 : x4_1 < (a0.size : Int)
   ·rw [if_pos c2] at H
    have c2b0 : decide (x4_1 < (a0.size : Int)) = true := decide_eq_true c2
    clear c2
    by_cases c3 : 0 ≤ x4_1
    ·rw [if_pos c3] at H
     have c3b0 : decide (0 ≤ x4_1) = true := decide_eq_true c3
     clear c3
     by_cases c5 : (bt a0 x4_1) ≥ 65
     ·rw [if_pos c5] at H
      have c5b0 : decide (65 ≤ (bt a0 x4_1)) = true := decide_eq_true c5
      clear c5
      by_cases c6 : (bt a0 x4_1) ≤ 90
      ·rw [if_pos c6] at H
       have c6b0 : decide ((bt a0 x4_1) ≤ 90) = true := decide_eq_true c6
       clear c6
       by_cases c7 : x3_1.length < 140737488355328
       ·rw [if_pos c7] at H
        have LMc7 := Aside0.mk c7
        clear c7
        obtain ⟨y187, hy187⟩ : ∃ y_ : List Int, y_ = (x3_1 ++ [((bt a0 x4_1) + 32) % 256]) := ⟨_, rfl⟩
        replace H : (broadsheetref07_Lower.l0 k1 a0 y187 (wrap64 (x4_1 + 1))) = some r := by first | (rw [hy187]; with_reducible exact H) | (have H2_ := (Option.bind_some _ _).symm.trans H; rw [hy187]; with_reducible exact H2_) | (have H2_ := (Option.bind_some _ _).symm.trans H; with_reducible exact H2_) | with_reducible exact H | (rw [hy187]; exact H) | exact H
        have Ny187 := Aside0.mk hy187
        clear hy187
        have H' := Aside0.mk H
        clear H
        have p4 : 0 ≤ (x4_1 : Int) := of_decide_eq_true zb12
        have q4 : x4_1 < (a0.size : Int) := of_decide_eq_true zb12
        have hx4 := bt_at a0 x4_1
        replace p4 := eq_true p4
        replace q4 := eq_true q4
        go_wp2_with (first | ((with_reducible refine gate_builtin (b := .append) (xs := #[.tmp 23, .tmp 25]) rfl ?_); at_builtin; refine Kd.R_append (Kd.int .u8) (w0 := w) w.heap.size rfl (.tmp 23) (.tmp 25) 50 5 (.int .u8 0) 1 rfl Tryd.underlying50 info5 rfl zb32 zb26 u3 x3_1 (((bt a0 x4_1) + 32) % 256) [.int .u8 (((bt a0 x4_1) + 32) % 256)] (fun _ => True) (fun _ => False) rfl rfl ?aP (fun _ hk => hk.elim) ?aF ?aO ?aB ?aS ?aL ?_; (case aP => exact rfl); (case aB => exact zb0); (case aF => exact (fun _ _ => trivial)); (case aO => exact (by (with_reducible repeat (first | apply Kd.R_alloc | apply Kd.R_drewN | apply Kd.R_drew)); exact HO_3.out)); (case aS => exact (below_size zb0)); (case aL => have := LMc7.out; omega); intro v188 w8 ho hb hg hat; rw [← Ny187.out] at ho; have n0_ := Aside0.mk (hb); have n1_ := Aside0.mk (ho); clear HB; clear HO_3; have HB := n0_; have HO189 := n1_; clear n0_ n1_; clear ho hb hg hat))
        go_roundg k1
        case measure => have := HK1.out; omega
        case rel => exact ⟨(y187), (wrap64 (x4_1 + 1)), zb19, H', ⟨by have := HK1.out; omega⟩, ⟨by (with_reducible repeat (first | apply Kd.R_alloc | apply Kd.R_drewN | apply Kd.R_drew)); exact HO189.out⟩, ⟨by repeat (first | (with_reducible first | exact HB.out | apply below_alloc | apply pw_below_drewN | apply below_drew1) | exact HB.out)⟩⟩
       ·rw [if_neg c7] at H
        exact absurd H (by simp)
      ·rw [if_neg c6] at H
       have c6b0 : decide ((bt a0 x4_1) ≤ 90) = false := decide_eq_false c6
       clear c6
       by_cases c9 : x3_1.length < 140737488355328
       ·rw [if_pos c9] at H
        have LMc9 := Aside0.mk c9
        clear c9
        obtain ⟨y190, hy190⟩ : ∃ y_ : List Int, y_ = (x3_1 ++ [bt a0 x4_1]) := ⟨_, rfl⟩
        replace H : (broadsheetref07_Lower.l0 k1 a0 y190 (wrap64 (x4_1 + 1))) = some r := by first | (rw [hy190]; with_reducible exact H) | (have H2_ := (Option.bind_some _ _).symm.trans H; rw [hy190]; with_reducible exact H2_) | (have H2_ := (Option.bind_some _ _).symm.trans H; with_reducible exact H2_) | with_reducible exact H | (rw [hy190]; exact H) | exact H
        have Ny190 := Aside0.mk hy190
        clear hy190
        have H' := Aside0.mk H
        clear H
        have p4 : 0 ≤ (x4_1 : Int) := of_decide_eq_true zb12
        have q4 : x4_1 < (a0.size : Int) := of_decide_eq_true zb12
        have hx4 := bt_at a0 x4_1
        replace p4 := eq_true p4
        replace q4 := eq_true q4
        go_wp2_with (first | ((with_reducible refine gate_builtin (b := .append) (xs := #[.tmp 23, .tmp 25]) rfl ?_); at_builtin; refine Kd.R_append (Kd.int .u8) (w0 := w) w.heap.size rfl (.tmp 23) (.tmp 25) 50 5 (.int .u8 0) 1 rfl Tryd.underlying50 info5 rfl zb32 zb26 u3 x3_1 (bt a0 x4_1) [.int .u8 (bt a0 x4_1)] (fun _ => True) (fun _ => False) rfl rfl ?aP (fun _ hk => hk.elim) ?aF ?aO ?aB ?aS ?aL ?_; (case aP => exact rfl); (case aB => exact zb0); (case aF => exact (fun _ _ => trivial)); (case aO => exact (by (with_reducible repeat (first | apply Kd.R_alloc | apply Kd.R_drewN | apply Kd.R_drew)); exact HO_3.out)); (case aS => exact (below_size zb0)); (case aL => have := LMc9.out; omega); intro v191 w10 ho hb hg hat; rw [← Ny190.out] at ho; have n0_ := Aside0.mk (hb); have n1_ := Aside0.mk (ho); clear HB; clear HO_3; have HB := n0_; have HO192 := n1_; clear n0_ n1_; clear ho hb hg hat))
        go_roundg k1
        case measure => have := HK1.out; omega
        case rel => exact ⟨(y190), (wrap64 (x4_1 + 1)), zb19, H', ⟨by have := HK1.out; omega⟩, ⟨by (with_reducible repeat (first | apply Kd.R_alloc | apply Kd.R_drewN | apply Kd.R_drew)); exact HO192.out⟩, ⟨by repeat (first | (with_reducible first | exact HB.out | apply below_alloc | apply pw_below_drewN | apply below_drew1) | exact HB.out)⟩⟩
       ·rw [if_neg c9] at H
        exact absurd H (by simp)
     ·rw [if_neg c5] at H
      have c5b0 : decide (65 ≤ (bt a0 x4_1)) = false := decide_eq_false c5
      clear c5
      by_cases c11 : x3_1.length < 140737488355328
      ·rw [if_pos c11] at H
       have LMc11 := Aside0.mk c11
       clear c11
       obtain ⟨y193, hy193⟩ : ∃ y_ : List Int, y_ = (x3_1 ++ [bt a0 x4_1]) := ⟨_, rfl⟩
       replace H : (broadsheetref07_Lower.l0 k1 a0 y193 (wrap64 (x4_1 + 1))) = some r := by first | (rw [hy193]; with_reducible exact H) | (have H2_ := (Option.bind_some _ _).symm.trans H; rw [hy193]; with_reducible exact H2_) | (have H2_ := (Option.bind_some _ _).symm.trans H; with_reducible exact H2_) | with_reducible exact H | (rw [hy193]; exact H) | exact H
       have Ny193 := Aside0.mk hy193
       clear hy193
       have H' := Aside0.mk H
       clear H
       have p4 : 0 ≤ (x4_1 : Int) := of_decide_eq_true zb12
       have q4 : x4_1 < (a0.size : Int) := of_decide_eq_true zb12
       have hx4 := bt_at a0 x4_1
       replace p4 := eq_true p4
       replace q4 := eq_true q4
       go_wp2_with (first | ((with_reducible refine gate_builtin (b := .append) (xs := #[.tmp 23, .tmp 25]) rfl ?_); at_builtin; refine Kd.R_append (Kd.int .u8) (w0 := w) w.heap.size rfl (.tmp 23) (.tmp 25) 50 5 (.int .u8 0) 1 rfl Tryd.underlying50 info5 rfl zb32 zb26 u3 x3_1 (bt a0 x4_1) [.int .u8 (bt a0 x4_1)] (fun _ => True) (fun _ => False) rfl rfl ?aP (fun _ hk => hk.elim) ?aF ?aO ?aB ?aS ?aL ?_; (case aP => exact rfl); (case aB => exact zb0); (case aF => exact (fun _ _ => trivial)); (case aO => exact (by (with_reducible repeat (first | apply Kd.R_alloc | apply Kd.R_drewN | apply Kd.R_drew)); exact HO_3.out)); (case aS => exact (below_size zb0)); (case aL => have := LMc11.out; omega); intro v194 w12 ho hb hg hat; rw [← Ny193.out] at ho; have n0_ := Aside0.mk (hb); have n1_ := Aside0.mk (ho); clear HB; clear HO_3; have HB := n0_; have HO195 := n1_; clear n0_ n1_; clear ho hb hg hat))
       go_roundg k1
       case measure => have := HK1.out; omega
       case rel => exact ⟨(y193), (wrap64 (x4_1 + 1)), zb19, H', ⟨by have := HK1.out; omega⟩, ⟨by (with_reducible repeat (first | apply Kd.R_alloc | apply Kd.R_drewN | apply Kd.R_drew)); exact HO195.out⟩, ⟨by repeat (first | (with_reducible first | exact HB.out | apply below_alloc | apply pw_below_drewN | apply below_drew1) | exact HB.out)⟩⟩
      ·rw [if_neg c11] at H
       exact absurd H (by simp)
    ·rw [if_neg c3] at H
     exact absurd H (by simp)
   ·rw [if_neg c2] at H
    have c2b0 : decide (x4_1 < (a0.size : Int)) = false := decide_eq_false c2
    clear c2
    obtain rfl := Option.some.inj H
    have hcv13 := own_string (P := Tryd.prog) Tryd.underlying50 Tryd.underlying5 Tryd.underlying9 (Kd.own_of_R HO_3.out)
    have hcvq13 := fun n_ => own_string (P := Tryd.prog) Tryd.underlying50 Tryd.underlying5 Tryd.underlying9 (Kd.own_of_R (Kd.R_drewN HO_3.out n_))
    go_wp2
    go_ret
    exact ⟨zb8, zb0⟩
end Go.Proofs.YtaopopnlnohnpaaDoor.P
