/- Texts of this seat, joined: lemmas and walks that its statements' proofs use. -/
import Derived.Test.YteonhdfjfjpbjaaGreatDoorK1
import Derived.Test.YteonhdfjfjpbjaaGreatDoorK4
import Derived.Test.YteonhdfjfjpbjaaGreatDoorK3
import Derived.Test.YteonhdfjfjpbjaaGreatDoorK5
/- Px43 -/
namespace Go.Proofs.YteonhdfjfjpbjaaGreatDoor.P
open Go.Proofs.YteonhdfjfjpbjaaGreatDoor.B
open Go.RowKit Go.Proofs.YteonhdfjfjpbjaaGreatDoorW.PrintWords Go.Proofs.YteonhdfjfjpbjaaGreatDoorW.PrintLast Go.Proofs.YteonhdfjfjpbjaaGreatDoorW.PrintMore
attribute [local go_sem] str_leq str_gtr str_geq max2_int min2_int max_two min_two max_three min_three max_four min_four
set_option linter.unusedVariables false
set_option linter.unusedSimpArgs false
open Go.Proofs.YteonhdfjfjpbjaaGreatDoor.O
def broadsheetlaw20_RequestParses.f (k : Nat) (a0 : ByteArray) : Option (Bool) := if (a0.size : Int) > 3000 then ((broadsheetlaw20_awake.f).bind fun t341 => (some t341)) else ((request_Parse.f a0).bind fun bt342 => ((broadsheetref20_Parse.f k a0).bind fun bt350 => ((broadsheetlaw20_awake.f).bind fun t358 => (if t358 = true then ((broadsheetref20_Same.f k bt342.1 bt342.2.1 bt342.2.2.1 bt342.2.2.2.1 bt350.1 bt350.2.1 bt350.2.2.1 bt350.2.2.2.1).bind fun t359 => (if t359 = true then (some (bt342.2.2.2.2 == bt350.2.2.2.2)) else (some false))) else (some false)))))
set_option maxHeartbeats 8000000 in
set_option maxRecDepth 100000 in
theorem broadsheetlaw20_RequestParses.calls (k : Nat) (a0 : ByteArray) (r : Bool) (w : World) (hG : Glob w) (h : broadsheetlaw20_RequestParses.f k a0 = some r) (hr : r = true) :
  Calls Tryz.prog 5 #[.string a0] w fun e w' => e = .returned (.bool r) ∧ Below w.heap.size w w' := by
 have hu36 := Tryz.underlying36
 have HB := Aside0.mk (Below.refl w.heap.size w)
 have hGA := Aside0.mk hG
 clear hG
 have H : (if (a0.size : Int) > 3000 then ((broadsheetlaw20_awake.f).bind fun t341 => (some t341)) else ((request_Parse.f a0).bind fun bt342 => ((broadsheetref20_Parse.f k a0).bind fun bt350 => ((broadsheetlaw20_awake.f).bind fun t358 => (if t358 = true then ((broadsheetref20_Same.f k bt342.1 bt342.2.1 bt342.2.2.1 bt342.2.2.2.1 bt350.1 bt350.2.1 bt350.2.2.1 bt350.2.2.2.1).bind fun t359 => (if t359 = true then (some (bt342.2.2.2.2 == bt350.2.2.2.2)) else (some false))) else (some false)))))) = some r := h
 clear h
 by_cases c2 : (a0.size : Int) > 3000
 ·rw [if_pos c2] at H
  have c2b0 : decide (3000 < (a0.size : Int)) = true := decide_eq_true c2
  have c2b1 : decide (3000 < a0.size) = true := decide_eq_true zb16
  clear c2
  replace H := Option.bind_eq_some_iff.mp H
  obtain ⟨t341, A30, H⟩ := H
  replace H : (some t341) = some r := H
  have A3 := Aside0.mk A30
  clear A30
  obtain rfl := Option.some.inj H
  go_enter Tryz.func5, Tryz.ntmps5
  go_wp2_with (first | ((with_reducible refine gate_callee (f := 16) rfl ?_); refine goesL_ (some 10) rfl rfl Tryz.func16 zb12 rfl #[] rfl zb1 ?_; (with_reducible refine (broadsheetlaw20_awake.calls  t341 _ ?side1 A3.out (by first | rfl | exact hr)).mono ?_); (case side1 => exact Glob.below hGA.out zb0); rintro e w4 ⟨rfl, hb⟩; refine ⟨_, rfl, ?_⟩; have n0_ := Aside0.mk (below_step zb0 hb); clear HB; have HB := n0_; clear n0_; (try clear hb); (try clear hb2); (try clear hk); (try clear hi)))
  go_ret
  exact ⟨zb3, zb0⟩
 ·rw [if_neg c2] at H
  have c2b0 : decide (3000 < (a0.size : Int)) = false := decide_eq_false c2
  have c2b1 : decide (3000 < a0.size) = false := decide_eq_false zb16
  clear c2
  replace H := Option.bind_eq_some_iff.mp H
  obtain ⟨⟨t342, t343, t344, t347, t348⟩, A50, H⟩ := H
  replace H : ((broadsheetref20_Parse.f k a0).bind fun bt350 => ((broadsheetlaw20_awake.f).bind fun t358 => (if t358 = true then ((broadsheetref20_Same.f k t342 t343 t344 t347 bt350.1 bt350.2.1 bt350.2.2.1 bt350.2.2.2.1).bind fun t359 => (if t359 = true then (some (t348 == bt350.2.2.2.2)) else (some false))) else (some false)))) = some r := H
  have A5 := Aside0.mk A50
  clear A50
  replace H := Option.bind_eq_some_iff.mp H
  obtain ⟨⟨t350, t351, t352, t355, t356⟩, A60, H⟩ := H
  replace H : ((broadsheetlaw20_awake.f).bind fun t358 => (if t358 = true then ((broadsheetref20_Same.f k t342 t343 t344 t347 t350 t351 t352 t355).bind fun t359 => (if t359 = true then (some (t348 == t356)) else (some false))) else (some false))) = some r := H
  have A6 := Aside0.mk A60
  clear A60
  replace H := Option.bind_eq_some_iff.mp H
  obtain ⟨t358, A70, H⟩ := H
  replace H : (if t358 = true then ((broadsheetref20_Same.f k t342 t343 t344 t347 t350 t351 t352 t355).bind fun t359 => (if t359 = true then (some (t348 == t356)) else (some false))) else (some false)) = some r := H
  have A7 := Aside0.mk A70
  clear A70
  by_cases c8 : t358 = true
  ·subst c8
   replace H : ((broadsheetref20_Same.f k t342 t343 t344 t347 t350 t351 t352 t355).bind fun t359 => (if t359 = true then (some (t348 == t356)) else (some false))) = some r := by rw [if_pos rfl] at H; exact H
   replace H := Option.bind_eq_some_iff.mp H
   obtain ⟨t359, A90, H⟩ := H
   replace H : (if t359 = true then (some (t348 == t356)) else (some false)) = some r := H
   have A9 := Aside0.mk A90
   clear A90
   by_cases c10 : t359 = true
   ·subst c10
    replace H : (some (t348 == t356)) = some r := by rw [if_pos rfl] at H; exact H
    obtain rfl := Option.some.inj H
    go_enter Tryz.func5, Tryz.ntmps5
    go_wp2_with (first | ((with_reducible refine gate_callee (f := 17) rfl ?_); refine goesL_ (some 13) rfl rfl Tryz.func17 zb12 rfl #[.string a0] rfl zb1 ?_; (with_reducible refine (request_Parse.calls a0 t342 t343 t344 t347 t348 _ ?side1 A5.out).mono ?_); (case side1 => exact Glob.below hGA.out zb0); rintro e w11 ⟨v345, rfl, ho0, hb⟩; refine ⟨_, rfl, ?_⟩; have n0_ := Aside0.mk (Kd.R_lower ho0 (below_size zb0)); have n1_ := Aside0.mk (below_step zb0 hb); clear HB; have HO346 := n0_; have HB := n1_; clear n0_ n1_; (try clear hb); (try clear hb2); (try clear hk); (try clear hi); (try clear ho0)) | ((with_reducible refine gate_dst (N := 3) rfl ?_); refine box_event ?hg (N := 3) ?hd (cs := #[.string (⟨#[]⟩ : ByteArray), .string (⟨#[]⟩ : ByteArray), .slice none 0 0, .string (⟨#[]⟩ : ByteArray)]) (t := 36) ?hr ?_; (case hd => rfl); (case hg => rfl); (case hr => first | (go_simp; done) | (go_simp; rfl)); intro gb349 hg w12 hbox hb; have n0_ := Aside0.mk (Kd.R_below (by (with_reducible repeat (first | apply Kd.R_alloc | apply Kd.R_drewN | apply Kd.R_drew)); exact HO346.out) hb); have n1_ := Aside0.mk (below_step zb0 hb); have n2_ := Aside0.mk (hbox); have n3_ := Aside0.mk ((by rw [hg]; exact (below_size zb0) : w.heap.size ≤ gb349)); have n4_ := Aside0.mk ((by rw [hg]; exact (below_size zb0) : w.heap.size ≤ gb349)); clear HO346; clear HB; have HO346 := n0_; have HB := n1_; have BK349 := n2_; have GW349 := n3_; have GE349 := n4_; clear n0_ n1_ n2_ n3_ n4_; clear hb hbox hg; have hcz13_0 : w12.cell? ⟨gb349, 0, none⟩ = some (.string (⟨#[]⟩ : ByteArray)) := (blk_cell BK349.out 0).trans rfl; have hcz13_1 : w12.cell? ⟨gb349, 1, none⟩ = some (.string (⟨#[]⟩ : ByteArray)) := (blk_cell BK349.out 1).trans rfl; have hcz13_2 : w12.cell? ⟨gb349, 2, none⟩ = some (.slice none 0 0) := (blk_cell BK349.out 2).trans rfl; have hcz13_3 : w12.cell? ⟨gb349, 3, none⟩ = some (.string (⟨#[]⟩ : ByteArray)) := (blk_cell BK349.out 3).trans rfl; have hfz13_0 := blk_frozen BK349.out 0; have hfz13_1 := blk_frozen BK349.out 1; have hfz13_2 := blk_frozen BK349.out 2; have hfz13_3 := blk_frozen BK349.out 3; obtain ⟨Ao14, co14, eo14⟩ := Kd.R_slice HO346.out; subst eo14) | ((with_reducible refine gate_callee (f := 18) rfl ?_); refine goesL_ (some 18) rfl rfl Tryz.func18 zb12 rfl #[.string a0] rfl zb1 ?_; (with_reducible refine (broadsheetref20_Parse.calls k a0 t350 t351 t352 t355 t356 _ A6.out).mono ?_); rintro e w15 ⟨v353, rfl, ho0, hb⟩; refine ⟨_, rfl, ?_⟩; have n0_ := Aside0.mk (Kd.R_elder' zb40 (Kd.R_base ho0) hb); have n1_ := Aside0.mk (Kd.R_lower (Kd.R_new' ho0 (Kd.R_lt zb40)) (below_size zb29)); have n2_ := Aside0.mk (blk_below (g := gb349) (o := .cells #[.string t342, .string t343, .slice Ao14 t344.length co14, .string t347] 36 (0, 0)) (by (with_reducible repeat (first | refine blk_drewN ?_ _ | refine blk_drew ?_ | refine blk_alloc ?_ _)); refine blk_put (cs := #[.string t342, .string t343, .slice Ao14 t344.length co14, .string (⟨#[]⟩ : ByteArray)]) ?_ 3 _ rfl; (with_reducible repeat (first | refine blk_drewN ?_ _ | refine blk_drew ?_ | refine blk_alloc ?_ _)); refine blk_put (cs := #[.string t342, .string t343, .slice none 0 0, .string (⟨#[]⟩ : ByteArray)]) ?_ 2 _ rfl; (with_reducible repeat (first | refine blk_drewN ?_ _ | refine blk_drew ?_ | refine blk_alloc ?_ _)); refine blk_put (cs := #[.string t342, .string (⟨#[]⟩ : ByteArray), .slice none 0 0, .string (⟨#[]⟩ : ByteArray)]) ?_ 1 _ rfl; (with_reducible repeat (first | refine blk_drewN ?_ _ | refine blk_drew ?_ | refine blk_alloc ?_ _)); refine blk_put (cs := #[.string (⟨#[]⟩ : ByteArray), .string (⟨#[]⟩ : ByteArray), .slice none 0 0, .string (⟨#[]⟩ : ByteArray)]) ?_ 0 _ rfl; (with_reducible repeat (first | refine blk_drewN ?_ _ | refine blk_drew ?_ | refine blk_alloc ?_ _)); exact BK349.out) hb); have n3_ := Aside0.mk (below_step zb29 hb); clear HO346; clear BK349; clear HB; have HO346 := n0_; have HO354 := n1_; have BK349 := n2_; have HB := n3_; clear n0_ n1_ n2_ n3_; (try clear hb); (try clear hb2); (try clear hk); (try clear hi); (try clear ho0)) | ((with_reducible refine gate_dst (N := 5) rfl ?_); refine box_event ?hg (N := 5) ?hd (cs := #[.string (⟨#[]⟩ : ByteArray), .string (⟨#[]⟩ : ByteArray), .slice none 0 0, .string (⟨#[]⟩ : ByteArray)]) (t := 36) ?hr ?_; (case hd => rfl); (case hg => rfl); (case hr => first | (go_simp; done) | (go_simp; rfl)); intro gb357 hg w16 hbox hb; have n0_ := Aside0.mk (Kd.R_below (by (with_reducible repeat (first | apply Kd.R_alloc | apply Kd.R_drewN | apply Kd.R_drew)); exact HO346.out) hb); have n1_ := Aside0.mk (Kd.R_below (by (with_reducible repeat (first | apply Kd.R_alloc | apply Kd.R_drewN | apply Kd.R_drew)); exact HO354.out) hb); have n2_ := Aside0.mk (blk_below (g := gb349) (o := .cells #[.string t342, .string t343, .slice Ao14 t344.length co14, .string t347] 36 (0, 0)) zb48 hb); have n3_ := Aside0.mk (below_step zb29 hb); have n4_ := Aside0.mk (hbox); have n5_ := Aside0.mk ((by rw [hg]; exact (below_size zb29) : w.heap.size ≤ gb357)); have n6_ := Aside0.mk ((by rw [hg]; exact (below_size zb29) : w.heap.size ≤ gb357)); have n7_ := Aside0.mk ((by rw [hg]; exact Nat.ne_of_lt (blk_lt (g := gb349) (o := .cells #[.string t342, .string t343, .slice Ao14 t344.length co14, .string t347] 36 (0, 0)) zb48) : gb349 ≠ gb357)); have n8_ := Aside0.mk ((by rw [hg]; exact Nat.ne_of_gt (blk_lt (g := gb349) (o := .cells #[.string t342, .string t343, .slice Ao14 t344.length co14, .string t347] 36 (0, 0)) zb48) : gb357 ≠ gb349)); clear HO346; clear HO354; clear BK349; clear HB; have HO346 := n0_; have HO354 := n1_; have BK349 := n2_; have HB := n3_; have BK357 := n4_; have GW357 := n5_; have GE357 := n6_; have NB349_357 := n7_; have NB357_349 := n8_; clear n0_ n1_ n2_ n3_ n4_ n5_ n6_ n7_ n8_; clear hb hbox hg; have hnb17 := NB357_349.out; have hnc17 := NB349_357.out; have hcz18_0 : w16.cell? ⟨gb357, 0, none⟩ = some (.string (⟨#[]⟩ : ByteArray)) := (blk_cell BK357.out 0).trans rfl; have hcz18_1 : w16.cell? ⟨gb357, 1, none⟩ = some (.string (⟨#[]⟩ : ByteArray)) := (blk_cell BK357.out 1).trans rfl; have hcz18_2 : w16.cell? ⟨gb357, 2, none⟩ = some (.slice none 0 0) := (blk_cell BK357.out 2).trans rfl; have hcz18_3 : w16.cell? ⟨gb357, 3, none⟩ = some (.string (⟨#[]⟩ : ByteArray)) := (blk_cell BK357.out 3).trans rfl; have hfz18_0 := blk_frozen BK357.out 0; have hfz18_1 := blk_frozen BK357.out 1; have hfz18_2 := blk_frozen BK357.out 2; have hfz18_3 := blk_frozen BK357.out 3; obtain ⟨Ao19, co19, eo19⟩ := Kd.R_slice HO354.out; subst eo19) | ((with_reducible refine gate_callee (f := 16) rfl ?_); refine goesL_ (some 21) rfl rfl Tryz.func16 zb12 rfl #[] rfl zb1 ?_; (with_reducible refine (broadsheetlaw20_awake.calls  true _ ?side1 A7.out (by first | rfl | exact hr)).mono ?_); (case side1 => exact Glob.below hGA.out zb31); rintro e w20 ⟨rfl, hb⟩; refine ⟨_, rfl, ?_⟩; have n0_ := Aside0.mk (Kd.R_below (by (with_reducible repeat (first | apply Kd.R_alloc | apply Kd.R_drewN | apply Kd.R_drew)); exact (Kd.R_mono (Kd.R_far (p := ⟨gb357, 3, none⟩) (Kd.R_far (p := ⟨gb357, 2, none⟩) (Kd.R_far (p := ⟨gb357, 1, none⟩) (Kd.R_far (p := ⟨gb357, 0, none⟩) (Kd.R_types HO346.out BK357.out zb19) (fun _ hk => hk.2) (.string t350)) (fun _ hk => hk.2) (.string t351)) (fun _ hk => hk.2) (.slice Ao19 t352.length co19)) (fun _ hk => hk.2) (.string t355)) (fun _ h_ => h_.1))) hb); have n1_ := Aside0.mk (Kd.R_below (by (with_reducible repeat (first | apply Kd.R_alloc | apply Kd.R_drewN | apply Kd.R_drew)); exact (Kd.R_mono (Kd.R_far (p := ⟨gb357, 3, none⟩) (Kd.R_far (p := ⟨gb357, 2, none⟩) (Kd.R_far (p := ⟨gb357, 1, none⟩) (Kd.R_far (p := ⟨gb357, 0, none⟩) (Kd.R_types HO354.out BK357.out zb19) (fun _ hk => hk.2) (.string t350)) (fun _ hk => hk.2) (.string t351)) (fun _ hk => hk.2) (.slice Ao19 t352.length co19)) (fun _ hk => hk.2) (.string t355)) (fun _ h_ => h_.1))) hb); have n2_ := Aside0.mk (blk_below (g := gb349) (o := .cells #[.string t342, .string t343, .slice Ao14 t344.length co14, .string t347] 36 (0, 0)) (by (with_reducible repeat (first | refine blk_drewN ?_ _ | refine blk_drew ?_ | refine blk_alloc ?_ _)); refine blk_far ?_ NB349_357.out _; (with_reducible repeat (first | refine blk_drewN ?_ _ | refine blk_drew ?_ | refine blk_alloc ?_ _)); refine blk_far ?_ NB349_357.out _; (with_reducible repeat (first | refine blk_drewN ?_ _ | refine blk_drew ?_ | refine blk_alloc ?_ _)); refine blk_far ?_ NB349_357.out _; (with_reducible repeat (first | refine blk_drewN ?_ _ | refine blk_drew ?_ | refine blk_alloc ?_ _)); refine blk_far ?_ NB349_357.out _; (with_reducible repeat (first | refine blk_drewN ?_ _ | refine blk_drew ?_ | refine blk_alloc ?_ _)); exact BK349.out) hb); have n3_ := Aside0.mk (blk_below (g := gb357) (o := .cells #[.string t350, .string t351, .slice Ao19 t352.length co19, .string t355] 36 (0, 0)) (by (with_reducible repeat (first | refine blk_drewN ?_ _ | refine blk_drew ?_ | refine blk_alloc ?_ _)); refine blk_put (cs := #[.string t350, .string t351, .slice Ao19 t352.length co19, .string (⟨#[]⟩ : ByteArray)]) ?_ 3 _ rfl; (with_reducible repeat (first | refine blk_drewN ?_ _ | refine blk_drew ?_ | refine blk_alloc ?_ _)); refine blk_put (cs := #[.string t350, .string t351, .slice none 0 0, .string (⟨#[]⟩ : ByteArray)]) ?_ 2 _ rfl; (with_reducible repeat (first | refine blk_drewN ?_ _ | refine blk_drew ?_ | refine blk_alloc ?_ _)); refine blk_put (cs := #[.string t350, .string (⟨#[]⟩ : ByteArray), .slice none 0 0, .string (⟨#[]⟩ : ByteArray)]) ?_ 1 _ rfl; (with_reducible repeat (first | refine blk_drewN ?_ _ | refine blk_drew ?_ | refine blk_alloc ?_ _)); refine blk_put (cs := #[.string (⟨#[]⟩ : ByteArray), .string (⟨#[]⟩ : ByteArray), .slice none 0 0, .string (⟨#[]⟩ : ByteArray)]) ?_ 0 _ rfl; (with_reducible repeat (first | refine blk_drewN ?_ _ | refine blk_drew ?_ | refine blk_alloc ?_ _)); exact BK357.out) hb); have n4_ := Aside0.mk (below_step zb31 hb); clear HO346; clear HO354; clear BK349; clear BK357; clear HB; have HO346 := n0_; have HO354 := n1_; have BK349 := n2_; have BK357 := n3_; have HB := n4_; clear n0_ n1_ n2_ n3_ n4_; (try clear hb); (try clear hb2); (try clear hk); (try clear hi); have hcz21_0 : w20.cell? ⟨gb349, 0, none⟩ = some (.string t342) := (blk_cell BK349.out 0).trans rfl; have hcz21_1 : w20.cell? ⟨gb349, 1, none⟩ = some (.string t343) := (blk_cell BK349.out 1).trans rfl; have hcz21_2 : w20.cell? ⟨gb349, 2, none⟩ = some (.slice Ao14 t344.length co14) := (blk_cell BK349.out 2).trans rfl; have hcz21_3 : w20.cell? ⟨gb349, 3, none⟩ = some (.string t347) := (blk_cell BK349.out 3).trans rfl; have hfz21_0 := blk_frozen BK349.out 0; have hfz21_1 := blk_frozen BK349.out 1; have hfz21_2 := blk_frozen BK349.out 2; have hfz21_3 := blk_frozen BK349.out 3; have hcz22_0 : w20.cell? ⟨gb357, 0, none⟩ = some (.string t350) := (blk_cell BK357.out 0).trans rfl; have hcz22_1 : w20.cell? ⟨gb357, 1, none⟩ = some (.string t351) := (blk_cell BK357.out 1).trans rfl; have hcz22_2 : w20.cell? ⟨gb357, 2, none⟩ = some (.slice Ao19 t352.length co19) := (blk_cell BK357.out 2).trans rfl; have hcz22_3 : w20.cell? ⟨gb357, 3, none⟩ = some (.string t355) := (blk_cell BK357.out 3).trans rfl; have hfz22_0 := blk_frozen BK357.out 0; have hfz22_1 := blk_frozen BK357.out 1; have hfz22_2 := blk_frozen BK357.out 2; have hfz22_3 := blk_frozen BK357.out 3) | (go_at_call 19; (with_reducible refine (broadsheetref20_Same.calls k t342 t343 _ _ t344 t347 t350 t351 _ _ t352 t355 true _ ?side1 ?side2 ?side3 ?side4 A9.out (by first | rfl | exact hr)).mono ?_); (case side1 => repeat (first | exact (Kd.R_reads' HO346.out).2.2 | (with_reducible refine Kd.C_alloc ?_ _) | (with_reducible refine Kd.C_drewN ?_ _) | (with_reducible refine Kd.C_drew ?_))); (case side2 => exact (Kd.R_reads' HO346.out).2.1); (case side3 => repeat (first | exact (Kd.R_reads' HO354.out).2.2 | (with_reducible refine Kd.C_alloc ?_ _) | (with_reducible refine Kd.C_drewN ?_ _) | (with_reducible refine Kd.C_drew ?_))); (case side4 => exact (Kd.R_reads' HO354.out).2.1); rintro e w23 ⟨rfl, hb⟩; have n0_ := Aside0.mk (Kd.R_below (by (with_reducible repeat (first | apply Kd.R_alloc | apply Kd.R_drewN | apply Kd.R_drew)); exact HO346.out) hb); have n1_ := Aside0.mk (Kd.R_below (by (with_reducible repeat (first | apply Kd.R_alloc | apply Kd.R_drewN | apply Kd.R_drew)); exact HO354.out) hb); have n2_ := Aside0.mk (blk_below (g := gb349) (o := .cells #[.string t342, .string t343, .slice Ao14 t344.length co14, .string t347] 36 (0, 0)) zb48 hb); have n3_ := Aside0.mk (blk_below (g := gb357) (o := .cells #[.string t350, .string t351, .slice Ao19 t352.length co19, .string t355] 36 (0, 0)) (by (with_reducible repeat (first | refine blk_drewN ?_ _ | refine blk_drew ?_ | refine blk_alloc ?_ _)); exact BK357.out) hb); have n4_ := Aside0.mk (below_step zb31 hb); clear HO346; clear HO354; clear BK349; clear BK357; clear HB; have HO346 := n0_; have HO354 := n1_; have BK349 := n2_; have BK357 := n3_; have HB := n4_; clear n0_ n1_ n2_ n3_ n4_; (try clear hb); (try clear hb2); (try clear hk); (try clear hi)))
    go_ret
    exact ⟨zb3, zb31⟩
   ·replace c10 := Bool.eq_false_iff.mpr c10
    subst c10
    replace H : (some false) = some r := by rw [if_neg (show ¬ (false = true) by decide)] at H; exact H
    exact absurd ((Option.some.inj H).trans hr) zb19
  ·replace c8 := Bool.eq_false_iff.mpr c8
   subst c8
   replace H : (some false) = some r := by rw [if_neg (show ¬ (false = true) by decide)] at H; exact H
   exact absurd ((Option.some.inj H).trans hr) zb19
end Go.Proofs.YteonhdfjfjpbjaaGreatDoor.P
/- SpParses -/
namespace Go.Proofs.YteonhdfjfjpbjaaGreatDoor.Sp
open Go Go.RowKit Go.Proofs.YteonhdfjfjpbjaaGreatDoorW.PrintWords Go.Proofs.YteonhdfjfjpbjaaGreatDoorW.PrintLast Go.Proofs.YteonhdfjfjpbjaaGreatDoor.O Go.Proofs.YteonhdfjfjpbjaaGreatDoor.P
set_option linter.unusedVariables false
theorem parses_all (s : ByteArray) : ∃ k, broadsheetlaw20_RequestParses.f k s = some true := by
  refine ⟨40000000000, ?_⟩
  rw [← mk_self s]
  generalize s.data.toList = l
  unfold broadsheetlaw20_RequestParses.f
  rw [awake20, mk_size]
  by_cases h : (l.length : Int) > 3000
  · rw [if_pos h]; rfl
  rw [if_neg h, parseF l (by omega), rreqF l _ (by omega) (by omega)]
  simp only [Option.bind_some, if_true]
  rw [req_same l _ (by omega) (by omega)]
  simp
end Go.Proofs.YteonhdfjfjpbjaaGreatDoor.Sp
