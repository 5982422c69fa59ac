/- Texts of this seat, joined: lemmas and walks that its statements' proofs use. -/
import Derived.Test.YtaopopnlnohnpaaGreatDoorK1
import Derived.Test.YtaopopnlnohnpaaGreatDoorK2
import Derived.Test.YtaopopnlnohnpaaGreatDoorK4
/- Px36 -/
namespace Go.Proofs.YtaopopnlnohnpaaGreatDoor.P
open Go.Proofs.YtaopopnlnohnpaaGreatDoor.B
open Go.RowKit Go.Proofs.YtaopopnlnohnpaaGreatDoorW.PrintWords Go.Proofs.YtaopopnlnohnpaaGreatDoorW.PrintLast Go.Proofs.YtaopopnlnohnpaaGreatDoorW.PrintMore
attribute [local go_sem] str_leq str_gtr str_geq max2_int min2_int max_two min_two max_three min_three max_four min_four
set_option linter.unusedVariables false
set_option linter.unusedSimpArgs false
open Go.Proofs.YtaopopnlnohnpaaGreatDoor.O
def broadsheetlaw21_ResponseParses.f (k : Nat) (a0 : ByteArray) : Option (Bool) := if (a0.size : Int) > 3000 then ((broadsheetlaw21_awake.f k).bind fun t313 => (some t313)) else ((response_Parse.f k a0).bind fun bt314 => ((broadsheetref21_Parse.f k a0).bind fun bt321 => ((broadsheetlaw21_awake.f k).bind fun t328 => (if t328 = true then ((broadsheetref21_Same.f k bt314.1 bt314.2.1 bt314.2.2.1 bt321.1 bt321.2.1 bt321.2.2.1).bind fun t329 => (if t329 = true then (some (bt314.2.2.2 == bt321.2.2.2)) else (some false))) else (some false)))))
set_option maxHeartbeats 8000000 in
set_option maxRecDepth 100000 in
theorem broadsheetlaw21_ResponseParses.calls (k : Nat) (a0 : ByteArray) (r : Bool) (w : World) (hG : Glob w) (h : broadsheetlaw21_ResponseParses.f k a0 = some r) (hr : r = true) :
  Calls Tryz.prog 5 #[.string a0] w fun e w' => e = .returned (.bool r) ∧ Below w.heap.size w w' := by
 have hu24 := Tryz.underlying24
 have HB := Aside0.mk (Below.refl w.heap.size w)
 have hGA := Aside0.mk hG
 clear hG
 have H : (if (a0.size : Int) > 3000 then ((broadsheetlaw21_awake.f k).bind fun t313 => (some t313)) else ((response_Parse.f k a0).bind fun bt314 => ((broadsheetref21_Parse.f k a0).bind fun bt321 => ((broadsheetlaw21_awake.f k).bind fun t328 => (if t328 = true then ((broadsheetref21_Same.f k bt314.1 bt314.2.1 bt314.2.2.1 bt321.1 bt321.2.1 bt321.2.2.1).bind fun t329 => (if t329 = true then (some (bt314.2.2.2 == bt321.2.2.2)) else (some false))) else (some false)))))) = some r := h
 clear h
 by_cases c2 : (a0.size : Int) > 3000
 ·rw [if_pos c2] at H
  have c2b0 : decide (3000 < (a0.size : Int)) = true := decide_eq_true c2
  have c2b1 : decide (3000 < a0.size) = true := decide_eq_true zb30
  clear c2
  replace H := Option.bind_eq_some_iff.mp H
  obtain ⟨t313, A30, H⟩ := H
  replace H : (some t313) = some r := H
  have A3 := Aside0.mk A30
  clear A30
  obtain rfl := Option.some.inj H
  go_enter Tryz.func5, Tryz.ntmps5
  go_wp2_with (first | ((with_reducible refine gate_callee (f := 8) rfl ?_); refine goesL_ (some 10) rfl rfl Tryz.func8 zb10 rfl #[] rfl zb1 ?_; (with_reducible refine (broadsheetlaw21_awake.calls k  t313 _ ?side1 A3.out (by first | rfl | exact hr)).mono ?_); (case side1 => exact Glob.below hGA.out zb0); rintro e w4 ⟨rfl, hb⟩; refine ⟨_, rfl, ?_⟩; have n0_ := Aside0.mk (below_step zb0 hb); clear HB; have HB := n0_; clear n0_; (try clear hb); (try clear hb2); (try clear hk); (try clear hi)))
  go_ret
  exact ⟨zb12, zb0⟩
 ·rw [if_neg c2] at H
  have c2b0 : decide (3000 < (a0.size : Int)) = false := decide_eq_false c2
  have c2b1 : decide (3000 < a0.size) = false := decide_eq_false zb30
  clear c2
  replace H := Option.bind_eq_some_iff.mp H
  obtain ⟨⟨t314, t315, t318, t319⟩, A50, H⟩ := H
  replace H : ((broadsheetref21_Parse.f k a0).bind fun bt321 => ((broadsheetlaw21_awake.f k).bind fun t328 => (if t328 = true then ((broadsheetref21_Same.f k t314 t315 t318 bt321.1 bt321.2.1 bt321.2.2.1).bind fun t329 => (if t329 = true then (some (t319 == bt321.2.2.2)) else (some false))) else (some false)))) = some r := H
  have A5 := Aside0.mk A50
  clear A50
  replace H := Option.bind_eq_some_iff.mp H
  obtain ⟨⟨t321, t322, t325, t326⟩, A60, H⟩ := H
  replace H : ((broadsheetlaw21_awake.f k).bind fun t328 => (if t328 = true then ((broadsheetref21_Same.f k t314 t315 t318 t321 t322 t325).bind fun t329 => (if t329 = true then (some (t319 == t326)) else (some false))) else (some false))) = some r := H
  have A6 := Aside0.mk A60
  clear A60
  replace H := Option.bind_eq_some_iff.mp H
  obtain ⟨t328, A70, H⟩ := H
  replace H : (if t328 = true then ((broadsheetref21_Same.f k t314 t315 t318 t321 t322 t325).bind fun t329 => (if t329 = true then (some (t319 == t326)) else (some false))) else (some false)) = some r := H
  have A7 := Aside0.mk A70
  clear A70
  by_cases c8 : t328 = true
  ·subst c8
   replace H : ((broadsheetref21_Same.f k t314 t315 t318 t321 t322 t325).bind fun t329 => (if t329 = true then (some (t319 == t326)) else (some false))) = some r := by rw [if_pos rfl] at H; exact H
   replace H := Option.bind_eq_some_iff.mp H
   obtain ⟨t329, A90, H⟩ := H
   replace H : (if t329 = true then (some (t319 == t326)) else (some false)) = some r := H
   have A9 := Aside0.mk A90
   clear A90
   by_cases c10 : t329 = true
   ·subst c10
    replace H : (some (t319 == t326)) = some r := by rw [if_pos rfl] at H; exact H
    obtain rfl := Option.some.inj H
    go_enter Tryz.func5, Tryz.ntmps5
    go_wp2_with (first | ((with_reducible refine gate_callee (f := 13) rfl ?_); refine goesL_ (some 13) rfl rfl Tryz.func13 zb10 rfl #[.string a0] rfl zb1 ?_; (with_reducible refine (response_Parse.calls k a0 t314 t315 t318 t319 _ ?side1 A5.out).mono ?_); (case side1 => exact Glob.below hGA.out zb0); rintro e w11 ⟨v316, rfl, ho0, hb⟩; refine ⟨_, rfl, ?_⟩; have n0_ := Aside0.mk (Kd.R_lower ho0 (below_size zb0)); have n1_ := Aside0.mk (below_step zb0 hb); clear HB; have HO317 := n0_; have HB := n1_; clear n0_ n1_; (try clear hb); (try clear hb2); (try clear hk); (try clear hi); (try clear ho0)) | ((with_reducible refine gate_dst (N := 3) rfl ?_); refine box_event ?hg (N := 3) ?hd (cs := #[.int .i64 0, .slice none 0 0, .string (⟨#[]⟩ : ByteArray)]) (t := 24) ?hr ?_; (case hd => rfl); (case hg => rfl); (case hr => first | (go_simp; done) | (go_simp; rfl)); intro gb320 hg w12 hbox hb; have n0_ := Aside0.mk (Kd.R_below (by (with_reducible repeat (first | apply Kd.R_alloc | apply Kd.R_drewN | apply Kd.R_drew)); exact HO317.out) hb); have n1_ := Aside0.mk (below_step zb0 hb); have n2_ := Aside0.mk (hbox); have n3_ := Aside0.mk ((by rw [hg]; exact (below_size zb0) : w.heap.size ≤ gb320)); have n4_ := Aside0.mk ((by rw [hg]; exact (below_size zb0) : w.heap.size ≤ gb320)); clear HO317; clear HB; have HO317 := n0_; have HB := n1_; have BK320 := n2_; have GW320 := n3_; have GE320 := n4_; clear n0_ n1_ n2_ n3_ n4_; clear hb hbox hg; have hcz13_0 : w12.cell? ⟨gb320, 0, none⟩ = some (.int .i64 0) := (blk_cell BK320.out 0).trans rfl; have hcz13_1 : w12.cell? ⟨gb320, 1, none⟩ = some (.slice none 0 0) := (blk_cell BK320.out 1).trans rfl; have hcz13_2 : w12.cell? ⟨gb320, 2, none⟩ = some (.string (⟨#[]⟩ : ByteArray)) := (blk_cell BK320.out 2).trans rfl; have hfz13_0 := blk_frozen BK320.out 0; have hfz13_1 := blk_frozen BK320.out 1; have hfz13_2 := blk_frozen BK320.out 2; obtain ⟨Ao14, co14, eo14⟩ := Kd.R_slice HO317.out; subst eo14) | ((with_reducible refine gate_callee (f := 14) rfl ?_); refine goesL_ (some 18) rfl rfl Tryz.func14 zb10 rfl #[.string a0] rfl zb1 ?_; (with_reducible refine (broadsheetref21_Parse.calls k a0 t321 t322 t325 t326 _ A6.out).mono ?_); rintro e w15 ⟨v323, rfl, ho0, hb⟩; refine ⟨_, rfl, ?_⟩; have n0_ := Aside0.mk (Kd.R_elder' zb48 (Kd.R_base ho0) hb); have n1_ := Aside0.mk (Kd.R_lower (Kd.R_new' ho0 (Kd.R_lt zb48)) (below_size zb35)); have n2_ := Aside0.mk (blk_below (g := gb320) (o := .cells #[.int .i64 t314, .slice Ao14 t315.length co14, .string t318] 24 (0, 0)) (by (with_reducible repeat (first | refine blk_drewN ?_ _ | refine blk_drew ?_ | refine blk_alloc ?_ _)); refine blk_put (cs := #[.int .i64 t314, .slice Ao14 t315.length co14, .string (⟨#[]⟩ : ByteArray)]) ?_ 2 _ rfl; (with_reducible repeat (first | refine blk_drewN ?_ _ | refine blk_drew ?_ | refine blk_alloc ?_ _)); refine blk_put (cs := #[.int .i64 t314, .slice none 0 0, .string (⟨#[]⟩ : ByteArray)]) ?_ 1 _ rfl; (with_reducible repeat (first | refine blk_drewN ?_ _ | refine blk_drew ?_ | refine blk_alloc ?_ _)); refine blk_put (cs := #[.int .i64 0, .slice none 0 0, .string (⟨#[]⟩ : ByteArray)]) ?_ 0 _ rfl; (with_reducible repeat (first | refine blk_drewN ?_ _ | refine blk_drew ?_ | refine blk_alloc ?_ _)); exact BK320.out) hb); have n3_ := Aside0.mk (below_step zb35 hb); clear HO317; clear BK320; clear HB; have HO317 := n0_; have HO324 := n1_; have BK320 := n2_; have HB := n3_; clear n0_ n1_ n2_ n3_; (try clear hb); (try clear hb2); (try clear hk); (try clear hi); (try clear ho0)) | ((with_reducible refine gate_dst (N := 5) rfl ?_); refine box_event ?hg (N := 5) ?hd (cs := #[.int .i64 0, .slice none 0 0, .string (⟨#[]⟩ : ByteArray)]) (t := 24) ?hr ?_; (case hd => rfl); (case hg => rfl); (case hr => first | (go_simp; done) | (go_simp; rfl)); intro gb327 hg w16 hbox hb; have n0_ := Aside0.mk (Kd.R_below (by (with_reducible repeat (first | apply Kd.R_alloc | apply Kd.R_drewN | apply Kd.R_drew)); exact HO317.out) hb); have n1_ := Aside0.mk (Kd.R_below (by (with_reducible repeat (first | apply Kd.R_alloc | apply Kd.R_drewN | apply Kd.R_drew)); exact HO324.out) hb); have n2_ := Aside0.mk (blk_below (g := gb320) (o := .cells #[.int .i64 t314, .slice Ao14 t315.length co14, .string t318] 24 (0, 0)) zb56 hb); have n3_ := Aside0.mk (below_step zb35 hb); have n4_ := Aside0.mk (hbox); have n5_ := Aside0.mk ((by rw [hg]; exact (below_size zb35) : w.heap.size ≤ gb327)); have n6_ := Aside0.mk ((by rw [hg]; exact (below_size zb35) : w.heap.size ≤ gb327)); have n7_ := Aside0.mk ((by rw [hg]; exact Nat.ne_of_lt (blk_lt (g := gb320) (o := .cells #[.int .i64 t314, .slice Ao14 t315.length co14, .string t318] 24 (0, 0)) zb56) : gb320 ≠ gb327)); have n8_ := Aside0.mk ((by rw [hg]; exact Nat.ne_of_gt (blk_lt (g := gb320) (o := .cells #[.int .i64 t314, .slice Ao14 t315.length co14, .string t318] 24 (0, 0)) zb56) : gb327 ≠ gb320)); clear HO317; clear HO324; clear BK320; clear HB; have HO317 := n0_; have HO324 := n1_; have BK320 := n2_; have HB := n3_; have BK327 := n4_; have GW327 := n5_; have GE327 := n6_; have NB320_327 := n7_; have NB327_320 := n8_; clear n0_ n1_ n2_ n3_ n4_ n5_ n6_ n7_ n8_; clear hb hbox hg; have hnb17 := NB327_320.out; have hnc17 := NB320_327.out; have hcz18_0 : w16.cell? ⟨gb327, 0, none⟩ = some (.int .i64 0) := (blk_cell BK327.out 0).trans rfl; have hcz18_1 : w16.cell? ⟨gb327, 1, none⟩ = some (.slice none 0 0) := (blk_cell BK327.out 1).trans rfl; have hcz18_2 : w16.cell? ⟨gb327, 2, none⟩ = some (.string (⟨#[]⟩ : ByteArray)) := (blk_cell BK327.out 2).trans rfl; have hfz18_0 := blk_frozen BK327.out 0; have hfz18_1 := blk_frozen BK327.out 1; have hfz18_2 := blk_frozen BK327.out 2; obtain ⟨Ao19, co19, eo19⟩ := Kd.R_slice HO324.out; subst eo19) | ((with_reducible refine gate_callee (f := 8) rfl ?_); refine goesL_ (some 21) rfl rfl Tryz.func8 zb10 rfl #[] rfl zb1 ?_; (with_reducible refine (broadsheetlaw21_awake.calls k  true _ ?side1 A7.out (by first | rfl | exact hr)).mono ?_); (case side1 => exact Glob.below hGA.out zb38); rintro e w20 ⟨rfl, hb⟩; refine ⟨_, rfl, ?_⟩; have n0_ := Aside0.mk (Kd.R_below (by (with_reducible repeat (first | apply Kd.R_alloc | apply Kd.R_drewN | apply Kd.R_drew)); exact (Kd.R_mono (Kd.R_far (p := ⟨gb327, 2, none⟩) (Kd.R_far (p := ⟨gb327, 1, none⟩) (Kd.R_far (p := ⟨gb327, 0, none⟩) (Kd.R_types HO317.out BK327.out zb33) (fun _ hk => hk.2) (.int .i64 t321)) (fun _ hk => hk.2) (.slice Ao19 t322.length co19)) (fun _ hk => hk.2) (.string t325)) (fun _ h_ => h_.1))) hb); have n1_ := Aside0.mk (Kd.R_below (by (with_reducible repeat (first | apply Kd.R_alloc | apply Kd.R_drewN | apply Kd.R_drew)); exact (Kd.R_mono (Kd.R_far (p := ⟨gb327, 2, none⟩) (Kd.R_far (p := ⟨gb327, 1, none⟩) (Kd.R_far (p := ⟨gb327, 0, none⟩) (Kd.R_types HO324.out BK327.out zb33) (fun _ hk => hk.2) (.int .i64 t321)) (fun _ hk => hk.2) (.slice Ao19 t322.length co19)) (fun _ hk => hk.2) (.string t325)) (fun _ h_ => h_.1))) hb); have n2_ := Aside0.mk (blk_below (g := gb320) (o := .cells #[.int .i64 t314, .slice Ao14 t315.length co14, .string t318] 24 (0, 0)) (by (with_reducible repeat (first | refine blk_drewN ?_ _ | refine blk_drew ?_ | refine blk_alloc ?_ _)); refine blk_far ?_ NB320_327.out _; (with_reducible repeat (first | refine blk_drewN ?_ _ | refine blk_drew ?_ | refine blk_alloc ?_ _)); refine blk_far ?_ NB320_327.out _; (with_reducible repeat (first | refine blk_drewN ?_ _ | refine blk_drew ?_ | refine blk_alloc ?_ _)); refine blk_far ?_ NB320_327.out _; (with_reducible repeat (first | refine blk_drewN ?_ _ | refine blk_drew ?_ | refine blk_alloc ?_ _)); exact BK320.out) hb); have n3_ := Aside0.mk (blk_below (g := gb327) (o := .cells #[.int .i64 t321, .slice Ao19 t322.length co19, .string t325] 24 (0, 0)) (by (with_reducible repeat (first | refine blk_drewN ?_ _ | refine blk_drew ?_ | refine blk_alloc ?_ _)); refine blk_put (cs := #[.int .i64 t321, .slice Ao19 t322.length co19, .string (⟨#[]⟩ : ByteArray)]) ?_ 2 _ rfl; (with_reducible repeat (first | refine blk_drewN ?_ _ | refine blk_drew ?_ | refine blk_alloc ?_ _)); refine blk_put (cs := #[.int .i64 t321, .slice none 0 0, .string (⟨#[]⟩ : ByteArray)]) ?_ 1 _ rfl; (with_reducible repeat (first | refine blk_drewN ?_ _ | refine blk_drew ?_ | refine blk_alloc ?_ _)); refine blk_put (cs := #[.int .i64 0, .slice none 0 0, .string (⟨#[]⟩ : ByteArray)]) ?_ 0 _ rfl; (with_reducible repeat (first | refine blk_drewN ?_ _ | refine blk_drew ?_ | refine blk_alloc ?_ _)); exact BK327.out) hb); have n4_ := Aside0.mk (below_step zb38 hb); clear HO317; clear HO324; clear BK320; clear BK327; clear HB; have HO317 := n0_; have HO324 := n1_; have BK320 := n2_; have BK327 := n3_; have HB := n4_; clear n0_ n1_ n2_ n3_ n4_; (try clear hb); (try clear hb2); (try clear hk); (try clear hi); have hcz21_0 : w20.cell? ⟨gb320, 0, none⟩ = some (.int .i64 t314) := (blk_cell BK320.out 0).trans rfl; have hcz21_1 : w20.cell? ⟨gb320, 1, none⟩ = some (.slice Ao14 t315.length co14) := (blk_cell BK320.out 1).trans rfl; have hcz21_2 : w20.cell? ⟨gb320, 2, none⟩ = some (.string t318) := (blk_cell BK320.out 2).trans rfl; have hfz21_0 := blk_frozen BK320.out 0; have hfz21_1 := blk_frozen BK320.out 1; have hfz21_2 := blk_frozen BK320.out 2; have hcz22_0 : w20.cell? ⟨gb327, 0, none⟩ = some (.int .i64 t321) := (blk_cell BK327.out 0).trans rfl; have hcz22_1 : w20.cell? ⟨gb327, 1, none⟩ = some (.slice Ao19 t322.length co19) := (blk_cell BK327.out 1).trans rfl; have hcz22_2 : w20.cell? ⟨gb327, 2, none⟩ = some (.string t325) := (blk_cell BK327.out 2).trans rfl; have hfz22_0 := blk_frozen BK327.out 0; have hfz22_1 := blk_frozen BK327.out 1; have hfz22_2 := blk_frozen BK327.out 2) | (go_at_call 15; (with_reducible refine (broadsheetref21_Same.calls k t314 _ _ t315 t318 t321 _ _ t322 t325 true _ ?side1 ?side2 ?side3 ?side4 A9.out (by first | rfl | exact hr)).mono ?_); (case side1 => repeat (first | exact (Kd.R_reads' HO317.out).2.2 | (with_reducible refine Kd.C_alloc ?_ _) | (with_reducible refine Kd.C_drewN ?_ _) | (with_reducible refine Kd.C_drew ?_))); (case side2 => exact (Kd.R_reads' HO317.out).2.1); (case side3 => repeat (first | exact (Kd.R_reads' HO324.out).2.2 | (with_reducible refine Kd.C_alloc ?_ _) | (with_reducible refine Kd.C_drewN ?_ _) | (with_reducible refine Kd.C_drew ?_))); (case side4 => exact (Kd.R_reads' HO324.out).2.1); rintro e w23 ⟨rfl, hb⟩; have n0_ := Aside0.mk (Kd.R_below (by (with_reducible repeat (first | apply Kd.R_alloc | apply Kd.R_drewN | apply Kd.R_drew)); exact HO317.out) hb); have n1_ := Aside0.mk (Kd.R_below (by (with_reducible repeat (first | apply Kd.R_alloc | apply Kd.R_drewN | apply Kd.R_drew)); exact HO324.out) hb); have n2_ := Aside0.mk (blk_below (g := gb320) (o := .cells #[.int .i64 t314, .slice Ao14 t315.length co14, .string t318] 24 (0, 0)) zb56 hb); have n3_ := Aside0.mk (blk_below (g := gb327) (o := .cells #[.int .i64 t321, .slice Ao19 t322.length co19, .string t325] 24 (0, 0)) (by (with_reducible repeat (first | refine blk_drewN ?_ _ | refine blk_drew ?_ | refine blk_alloc ?_ _)); exact BK327.out) hb); have n4_ := Aside0.mk (below_step zb38 hb); clear HO317; clear HO324; clear BK320; clear BK327; clear HB; have HO317 := n0_; have HO324 := n1_; have BK320 := n2_; have BK327 := n3_; have HB := n4_; clear n0_ n1_ n2_ n3_ n4_; (try clear hb); (try clear hb2); (try clear hk); (try clear hi)))
    go_ret
    exact ⟨zb12, zb38⟩
   ·replace c10 := Bool.eq_false_iff.mpr c10
    subst c10
    replace H : (some false) = some r := by rw [if_neg (show ¬ (false = true) by decide)] at H; exact H
    exact absurd ((Option.some.inj H).trans hr) zb33
  ·replace c8 := Bool.eq_false_iff.mpr c8
   subst c8
   replace H : (some false) = some r := by rw [if_neg (show ¬ (false = true) by decide)] at H; exact H
   exact absurd ((Option.some.inj H).trans hr) zb33
end Go.Proofs.YtaopopnlnohnpaaGreatDoor.P
/- SpYParses -/
namespace Go.Proofs.YtaopopnlnohnpaaGreatDoor.Sp
open Go Go.RowKit Go.Proofs.YtaopopnlnohnpaaGreatDoorW.PrintWords Go.Proofs.YtaopopnlnohnpaaGreatDoorW.PrintLast Go.Proofs.YtaopopnlnohnpaaGreatDoor.O Go.Proofs.YtaopopnlnohnpaaGreatDoor.P
set_option linter.unusedVariables false
theorem rsp_parses_all (s : ByteArray) : ∃ k, broadsheetlaw21_ResponseParses.f k s = some true := by
  refine ⟨5000000, ?_⟩
  rw [← mk_self s]
  generalize s.data.toList = l
  unfold broadsheetlaw21_ResponseParses.f
  rw [awake21 _ (by omega), mk_size]
  by_cases h : (l.length : Int) > 3000
  · rw [if_pos h]; rfl
  have hp := parse_short l (by omega)
  rw [if_neg h, parseRF l _ (by omega) (by omega), rparseRF l _ (by omega) (by omega)]
  simp only [Option.bind_some, if_true, txt4]
  rw [resp_same _ _ _ _ (by omega) (by omega)]
  simp
end Go.Proofs.YtaopopnlnohnpaaGreatDoor.Sp
