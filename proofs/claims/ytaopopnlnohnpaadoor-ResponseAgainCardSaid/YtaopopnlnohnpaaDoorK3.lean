/- Texts of this seat, joined: lemmas and walks that its statements' proofs use. -/
import Derived.Test.YtaopopnlnohnpaaDoorK1
import Derived.Test.YtaopopnlnohnpaaDoorK2
import Derived.Lib.SplitLaws
import Derived.Lib.AtoiAllCases
import Derived.Deep.Slices
import Derived.LaidLaws
import Derived.MakeChecks
import Derived.HandedShaped
import Derived.Lib.LaidU8
import Derived.Lib.LaidTab
import Derived.WalkKit
import Derived.ProofKit
import Derived.Test.YtaopopnlnohnpaaDoorRows
/- Px18 -/
namespace Go.Proofs.YtaopopnlnohnpaaDoor.P
open Go.Proofs.YtaopopnlnohnpaaDoor.B
open Go.RowKit Go.Proofs.YtaopopnlnohnpaaDoorW.PrintWords Go.Proofs.YtaopopnlnohnpaaDoorW.PrintLast Go.Proofs.YtaopopnlnohnpaaDoorW.PrintMore
attribute [local go_sem] str_leq str_gtr str_geq max2_int min2_int max_two min_two max_three min_three max_four min_four
set_option linter.unusedVariables false
set_option linter.unusedSimpArgs false
open Go.Proofs.YtaopopnlnohnpaaDoor.O
def broadsheetlaw21_ResponseAgain.f (k : Nat) (a0 : ByteArray) : Option (Bool) := (broadsheetlaw21_awake.f k).bind fun t223 => (if t223 = true then (if (a0.size : Int) > 3000 then (some t223) else ((response_Parse.f k a0).bind fun bt224 => (if bt224.2.2.2 = 0 then ((response_Print.f k bt224.1 bt224.2.1 bt224.2.2.1).bind fun bt231 => ((response_Parse.f k bt231.1).bind fun bt233 => (if bt231.2 = 0 then (if bt233.2.2.2 = 0 then ((broadsheetref21_Same.f k bt233.1 bt233.2.1 bt233.2.2.1 bt224.1 bt224.2.1 bt224.2.2.1).bind fun t240 => (some t240)) else (some false)) else (some false)))) else ((broadsheetref21_Same.f k bt224.1 bt224.2.1 bt224.2.2.1 0 ([] : List (S35)) (⟨#[]⟩ : ByteArray)).bind fun t241 => (some t241))))) else (some false))
set_option maxHeartbeats 8000000 in
set_option maxRecDepth 100000 in
theorem broadsheetlaw21_ResponseAgain.calls (k : Nat) (a0 : ByteArray) (r : Bool) (w : World) (hG : Glob w) (h : broadsheetlaw21_ResponseAgain.f k a0 = some r) (hr : r = true) :
  Calls Tryd.prog 4 #[.string a0] w fun e w' => e = .returned (.bool r) ∧ Below w.heap.size w w' := by
 have hu24 := Tryd.underlying24
 have HB := Aside0.mk (Below.refl w.heap.size w)
 have hGA := Aside0.mk hG
 clear hG
 have H : ((broadsheetlaw21_awake.f k).bind fun t223 => (if t223 = true then (if (a0.size : Int) > 3000 then (some t223) else ((response_Parse.f k a0).bind fun bt224 => (if bt224.2.2.2 = 0 then ((response_Print.f k bt224.1 bt224.2.1 bt224.2.2.1).bind fun bt231 => ((response_Parse.f k bt231.1).bind fun bt233 => (if bt231.2 = 0 then (if bt233.2.2.2 = 0 then ((broadsheetref21_Same.f k bt233.1 bt233.2.1 bt233.2.2.1 bt224.1 bt224.2.1 bt224.2.2.1).bind fun t240 => (some t240)) else (some false)) else (some false)))) else ((broadsheetref21_Same.f k bt224.1 bt224.2.1 bt224.2.2.1 0 ([] : List (S35)) (⟨#[]⟩ : ByteArray)).bind fun t241 => (some t241))))) else (some false))) = some r := h
 clear h
 replace H := Option.bind_eq_some_iff.mp H
 obtain ⟨t223, A20, H⟩ := H
 replace H : (if t223 = true then (if (a0.size : Int) > 3000 then (some t223) else ((response_Parse.f k a0).bind fun bt224 => (if bt224.2.2.2 = 0 then ((response_Print.f k bt224.1 bt224.2.1 bt224.2.2.1).bind fun bt231 => ((response_Parse.f k bt231.1).bind fun bt233 => (if bt231.2 = 0 then (if bt233.2.2.2 = 0 then ((broadsheetref21_Same.f k bt233.1 bt233.2.1 bt233.2.2.1 bt224.1 bt224.2.1 bt224.2.2.1).bind fun t240 => (some t240)) else (some false)) else (some false)))) else ((broadsheetref21_Same.f k bt224.1 bt224.2.1 bt224.2.2.1 0 ([] : List (S35)) (⟨#[]⟩ : ByteArray)).bind fun t241 => (some t241))))) else (some false)) = some r := H
 have A2 := Aside0.mk A20
 clear A20
 by_cases c3 : t223 = true
 ·subst c3
  replace H : (if (a0.size : Int) > 3000 then (some true) else ((response_Parse.f k a0).bind fun bt224 => (if bt224.2.2.2 = 0 then ((response_Print.f k bt224.1 bt224.2.1 bt224.2.2.1).bind fun bt231 => ((response_Parse.f k bt231.1).bind fun bt233 => (if bt231.2 = 0 then (if bt233.2.2.2 = 0 then ((broadsheetref21_Same.f k bt233.1 bt233.2.1 bt233.2.2.1 bt224.1 bt224.2.1 bt224.2.2.1).bind fun t240 => (some t240)) else (some false)) else (some false)))) else ((broadsheetref21_Same.f k bt224.1 bt224.2.1 bt224.2.2.1 0 ([] : List (S35)) (⟨#[]⟩ : ByteArray)).bind fun t241 => (some t241))))) = some r := by rw [if_pos rfl] at H; exact H
  by_cases c4 : (a0.size : Int) > 3000
  ·rw [if_pos c4] at H
   have c4b0 : decide (3000 < (a0.size : Int)) = true := decide_eq_true c4
   have c4b1 : decide (3000 < a0.size) = true := decide_eq_true zb24
   clear c4
   obtain rfl := Option.some.inj H
   go_enter Tryd.func4, Tryd.ntmps4
   go_wp2_with (first | ((with_reducible refine gate_callee (f := 5) rfl ?_); refine goesL_ (some 10) rfl rfl Tryd.func5 zb10 rfl #[] rfl zb1 ?_; (with_reducible refine (broadsheetlaw21_awake.calls k  true _ ?side1 A2.out (by first | rfl | exact hr)).mono ?_); (case side1 => exact Glob.below hGA.out zb0); rintro e w5 ⟨rfl, hb⟩; refine ⟨_, rfl, ?_⟩; have n0_ := Aside0.mk (below_step zb0 hb); clear HB; have HB := n0_; clear n0_; (try clear hb); (try clear hb2); (try clear hk); (try clear hi)))
   go_ret
   exact ⟨zb7, zb0⟩
  ·rw [if_neg c4] at H
   have c4b0 : decide (3000 < (a0.size : Int)) = false := decide_eq_false c4
   have c4b1 : decide (3000 < a0.size) = false := decide_eq_false zb24
   clear c4
   replace H := Option.bind_eq_some_iff.mp H
   obtain ⟨⟨t224, t225, t228, t229⟩, A60, H⟩ := H
   replace H : (if t229 = 0 then ((response_Print.f k t224 t225 t228).bind fun bt231 => ((response_Parse.f k bt231.1).bind fun bt233 => (if bt231.2 = 0 then (if bt233.2.2.2 = 0 then ((broadsheetref21_Same.f k bt233.1 bt233.2.1 bt233.2.2.1 t224 t225 t228).bind fun t240 => (some t240)) else (some false)) else (some false)))) else ((broadsheetref21_Same.f k t224 t225 t228 0 ([] : List (S35)) (⟨#[]⟩ : ByteArray)).bind fun t241 => (some t241))) = some r := H
   have A6 := Aside0.mk A60
   clear A60
   by_cases c7 : t229 = 0
   ·rw [if_pos c7] at H
    have c7b0 : (t229 == 0) = true := beq_iff_eq.mpr c7
    have c7b1 : (t229 != 0) = false := bne_eq_false_iff_eq.mpr c7
    clear c7
    replace H := Option.bind_eq_some_iff.mp H
    obtain ⟨⟨t231, t232⟩, A80, H⟩ := H
    replace H : ((response_Parse.f k t231).bind fun bt233 => (if t232 = 0 then (if bt233.2.2.2 = 0 then ((broadsheetref21_Same.f k bt233.1 bt233.2.1 bt233.2.2.1 t224 t225 t228).bind fun t240 => (some t240)) else (some false)) else (some false))) = some r := H
    have A8 := Aside0.mk A80
    clear A80
    replace H := Option.bind_eq_some_iff.mp H
    obtain ⟨⟨t233, t234, t237, t238⟩, A90, H⟩ := H
    replace H : (if t232 = 0 then (if t238 = 0 then ((broadsheetref21_Same.f k t233 t234 t237 t224 t225 t228).bind fun t240 => (some t240)) else (some false)) else (some false)) = some r := H
    have A9 := Aside0.mk A90
    clear A90
    by_cases c10 : t232 = 0
    ·rw [if_pos c10] at H
     have c10b0 : (t232 == 0) = true := beq_iff_eq.mpr c10
     have c10b1 : (t232 != 0) = false := bne_eq_false_iff_eq.mpr c10
     clear c10
     by_cases c11 : t238 = 0
     ·rw [if_pos c11] at H
      have c11b0 : (t238 == 0) = true := beq_iff_eq.mpr c11
      have c11b1 : (t238 != 0) = false := bne_eq_false_iff_eq.mpr c11
      clear c11
      replace H := Option.bind_eq_some_iff.mp H
      obtain ⟨t240, A120, H⟩ := H
      replace H : (some t240) = some r := H
      have A12 := Aside0.mk A120
      clear A120
      obtain rfl := Option.some.inj H
      go_enter Tryd.func4, Tryd.ntmps4
      go_wp2_with (first | ((with_reducible refine gate_callee (f := 5) rfl ?_); refine goesL_ (some 10) rfl rfl Tryd.func5 zb10 rfl #[] rfl zb1 ?_; (with_reducible refine (broadsheetlaw21_awake.calls k  true _ ?side1 A2.out (by first | rfl | exact hr)).mono ?_); (case side1 => exact Glob.below hGA.out zb0); rintro e w13 ⟨rfl, hb⟩; refine ⟨_, rfl, ?_⟩; have n0_ := Aside0.mk (below_step zb0 hb); clear HB; have HB := n0_; clear n0_; (try clear hb); (try clear hb2); (try clear hk); (try clear hi)) | ((with_reducible refine gate_callee (f := 9) rfl ?_); refine goesL_ (some 19) rfl rfl Tryd.func9 zb10 rfl #[.string a0] rfl zb1 ?_; (with_reducible refine (response_Parse.calls k a0 t224 t225 t228 t229 _ ?side1 A6.out).mono ?_); (case side1 => exact Glob.below hGA.out zb0); rintro e w14 ⟨v226, rfl, ho0, hb⟩; refine ⟨_, rfl, ?_⟩; have n0_ := Aside0.mk (Kd.R_lower ho0 (below_size zb0)); have n1_ := Aside0.mk (below_step zb0 hb); clear HB; have HO227 := n0_; have HB := n1_; clear n0_ n1_; (try clear hb); (try clear hb2); (try clear hk); (try clear hi); (try clear ho0)) | ((with_reducible refine gate_dst (N := 4) rfl ?_); refine box_event ?hg (N := 4) ?hd (cs := #[.int .i64 0, .slice none 0 0, .string (⟨#[]⟩ : ByteArray)]) (t := 24) ?hr ?_; (case hd => rfl); (case hg => rfl); (case hr => first | (go_simp; done) | (go_simp; rfl)); intro gb230 hg w15 hbox hb; have n0_ := Aside0.mk (Kd.R_below zb28 hb); have n1_ := Aside0.mk (below_step zb0 hb); have n2_ := Aside0.mk (hbox); have n3_ := Aside0.mk ((by rw [hg]; exact (below_size zb0) : w.heap.size ≤ gb230)); have n4_ := Aside0.mk ((by rw [hg]; exact (below_size zb0) : w.heap.size ≤ gb230)); clear HO227; clear HB; have HO227 := n0_; have HB := n1_; have BK230 := n2_; have GW230 := n3_; have GE230 := n4_; clear n0_ n1_ n2_ n3_ n4_; clear hb hbox hg; have hcz16_0 : w15.cell? ⟨gb230, 0, none⟩ = some (.int .i64 0) := (blk_cell BK230.out 0).trans rfl; have hcz16_1 : w15.cell? ⟨gb230, 1, none⟩ = some (.slice none 0 0) := (blk_cell BK230.out 1).trans rfl; have hcz16_2 : w15.cell? ⟨gb230, 2, none⟩ = some (.string (⟨#[]⟩ : ByteArray)) := (blk_cell BK230.out 2).trans rfl; have hfz16_0 := blk_frozen BK230.out 0; have hfz16_1 := blk_frozen BK230.out 1; have hfz16_2 := blk_frozen BK230.out 2; obtain ⟨Ao17, co17, eo17⟩ := Kd.R_slice HO227.out; subst eo17) | ((with_reducible refine gate_callee (f := 8) rfl ?_); refine goesL_ (some 32) rfl rfl Tryd.func8 zb10 rfl #[.agg #[.int .i64 t224, .slice Ao17 t225.length co17, .string t228]] rfl zb1 ?_; (with_reducible refine (response_Print.calls k t224 _ _ t225 t228 t231 t232 _ ?side1 ?side2 ?side3 A8.out).mono ?_); (case side1 => refine (Kd.R_reads' (e := 35) (base := w.heap.size) (ok := fun k_ => True) (n := t225.length) (c := co17) ?_).2.2; exact zb33); (case side2 => exact (Kd.R_reads' HO227.out).2.1); (case side3 => exact Glob.below hGA.out zb14); rintro e w18 ⟨rfl, hb⟩; refine ⟨_, rfl, ?_⟩; have n0_ := Aside0.mk (Kd.R_below zb33 hb); have n1_ := Aside0.mk (blk_below (g := gb230) (o := .cells #[.int .i64 t224, .slice Ao17 t225.length co17, .string t228] 24 (0, 0)) (by (with_reducible repeat (first | refine blk_drewN ?_ _ | refine blk_drew ?_ | refine blk_alloc ?_ _)); refine blk_put (cs := #[.int .i64 t224, .slice Ao17 t225.length co17, .string (⟨#[]⟩ : ByteArray)]) ?_ 2 _ rfl; (with_reducible repeat (first | refine blk_drewN ?_ _ | refine blk_drew ?_ | refine blk_alloc ?_ _)); refine blk_put (cs := #[.int .i64 t224, .slice none 0 0, .string (⟨#[]⟩ : ByteArray)]) ?_ 1 _ rfl; (with_reducible repeat (first | refine blk_drewN ?_ _ | refine blk_drew ?_ | refine blk_alloc ?_ _)); refine blk_put (cs := #[.int .i64 0, .slice none 0 0, .string (⟨#[]⟩ : ByteArray)]) ?_ 0 _ rfl; (with_reducible repeat (first | refine blk_drewN ?_ _ | refine blk_drew ?_ | refine blk_alloc ?_ _)); exact BK230.out) hb); have n2_ := Aside0.mk (below_step zb14 hb); clear HO227; clear BK230; clear HB; have HO227 := n0_; have BK230 := n1_; have HB := n2_; clear n0_ n1_ n2_; (try clear hb); (try clear hb2); (try clear hk); (try clear hi)) | ((with_reducible refine gate_callee (f := 9) rfl ?_); refine goesL_ (some 37) rfl rfl Tryd.func9 zb10 rfl #[.string t231] rfl zb1 ?_; (with_reducible refine (response_Parse.calls k t231 t233 t234 t237 t238 _ ?side1 A9.out).mono ?_); (case side1 => exact Glob.below hGA.out zb14); rintro e w19 ⟨v235, rfl, ho0, hb⟩; refine ⟨_, rfl, ?_⟩; have n0_ := Aside0.mk (Kd.R_elder' zb28 (Kd.R_base ho0) hb); have n1_ := Aside0.mk (Kd.R_lower (Kd.R_new' ho0 (Kd.R_lt zb28)) (below_size zb14)); have n2_ := Aside0.mk (blk_below (g := gb230) (o := .cells #[.int .i64 t224, .slice Ao17 t225.length co17, .string t228] 24 (0, 0)) zb37 hb); have n3_ := Aside0.mk (below_step zb14 hb); clear HO227; clear BK230; clear HB; have HO227 := n0_; have HO236 := n1_; have BK230 := n2_; have HB := n3_; clear n0_ n1_ n2_ n3_; (try clear hb); (try clear hb2); (try clear hk); (try clear hi); (try clear ho0)) | ((with_reducible refine gate_dst (N := 8) rfl ?_); refine box_event ?hg (N := 8) ?hd (cs := #[.int .i64 0, .slice none 0 0, .string (⟨#[]⟩ : ByteArray)]) (t := 24) ?hr ?_; (case hd => rfl); (case hg => rfl); (case hr => first | (go_simp; done) | (go_simp; rfl)); intro gb239 hg w20 hbox hb; have n0_ := Aside0.mk (Kd.R_below zb28 hb); have n1_ := Aside0.mk (Kd.R_below (by (with_reducible repeat (first | apply Kd.R_alloc | apply Kd.R_drewN | apply Kd.R_drew)); exact HO236.out) hb); have n2_ := Aside0.mk (blk_below (g := gb230) (o := .cells #[.int .i64 t224, .slice Ao17 t225.length co17, .string t228] 24 (0, 0)) zb37 hb); have n3_ := Aside0.mk (below_step zb14 hb); have n4_ := Aside0.mk (hbox); have n5_ := Aside0.mk ((by rw [hg]; exact (below_size zb14) : w.heap.size ≤ gb239)); have n6_ := Aside0.mk ((by rw [hg]; exact (below_size zb14) : w.heap.size ≤ gb239)); have n7_ := Aside0.mk ((by rw [hg]; exact Nat.ne_of_lt (blk_lt (g := gb230) (o := .cells #[.int .i64 t224, .slice Ao17 t225.length co17, .string t228] 24 (0, 0)) zb37) : gb230 ≠ gb239)); have n8_ := Aside0.mk ((by rw [hg]; exact Nat.ne_of_gt (blk_lt (g := gb230) (o := .cells #[.int .i64 t224, .slice Ao17 t225.length co17, .string t228] 24 (0, 0)) zb37) : gb239 ≠ gb230)); clear HO227; clear HO236; clear BK230; clear HB; have HO227 := n0_; have HO236 := n1_; have BK230 := n2_; have HB := n3_; have BK239 := n4_; have GW239 := n5_; have GE239 := n6_; have NB230_239 := n7_; have NB239_230 := n8_; clear n0_ n1_ n2_ n3_ n4_ n5_ n6_ n7_ n8_; clear hb hbox hg; have hnb21 := NB239_230.out; have hnc21 := NB230_239.out; have hcz22_0 : w20.cell? ⟨gb239, 0, none⟩ = some (.int .i64 0) := (blk_cell BK239.out 0).trans rfl; have hcz22_1 : w20.cell? ⟨gb239, 1, none⟩ = some (.slice none 0 0) := (blk_cell BK239.out 1).trans rfl; have hcz22_2 : w20.cell? ⟨gb239, 2, none⟩ = some (.string (⟨#[]⟩ : ByteArray)) := (blk_cell BK239.out 2).trans rfl; have hfz22_0 := blk_frozen BK239.out 0; have hfz22_1 := blk_frozen BK239.out 1; have hfz22_2 := blk_frozen BK239.out 2; obtain ⟨Ao23, co23, eo23⟩ := Kd.R_slice HO236.out; subst eo23; have hcz24_0 : w20.cell? ⟨gb230, 0, none⟩ = some (.int .i64 t224) := (blk_cell BK230.out 0).trans rfl; have hcz24_1 : w20.cell? ⟨gb230, 1, none⟩ = some (.slice Ao17 t225.length co17) := (blk_cell BK230.out 1).trans rfl; have hcz24_2 : w20.cell? ⟨gb230, 2, none⟩ = some (.string t228) := (blk_cell BK230.out 2).trans rfl; have hfz24_0 := blk_frozen BK230.out 0; have hfz24_1 := blk_frozen BK230.out 1; have hfz24_2 := blk_frozen BK230.out 2) | (go_at_call 11; (with_reducible refine (broadsheetref21_Same.calls k t233 _ _ t234 t237 t224 _ _ t225 t228 t240 _ ?side1 ?side2 ?side3 ?side4 A12.out (by first | rfl | exact hr)).mono ?_); (case side1 => refine (Kd.R_reads' (e := 35) (base := w.heap.size) (ok := fun k_ => (True ∧ some k_ ≠ (.slice Ao17 t225.length co17 : Value).ownBlock)) (n := t234.length) (c := co23) ?_).2.2; exact zb30); (case side2 => exact (Kd.R_reads' HO236.out).2.1); (case side3 => refine (Kd.R_reads' (e := 35) (base := w.heap.size) (ok := fun k_ => (True ∧ some k_ ≠ (.slice Ao23 t234.length co23 : Value).ownBlock)) (n := t225.length) (c := co17) ?_).2.2; exact zb31); (case side4 => exact (Kd.R_reads' HO227.out).2.1); rintro e w25 ⟨rfl, hb⟩; have n0_ := Aside0.mk (Kd.R_below zb31 hb); have n1_ := Aside0.mk (Kd.R_below zb30 hb); have n2_ := Aside0.mk (blk_below (g := gb230) (o := .cells #[.int .i64 t224, .slice Ao17 t225.length co17, .string t228] 24 (0, 0)) (by (with_reducible repeat (first | refine blk_drewN ?_ _ | refine blk_drew ?_ | refine blk_alloc ?_ _)); refine blk_far ?_ NB230_239.out _; (with_reducible repeat (first | refine blk_drewN ?_ _ | refine blk_drew ?_ | refine blk_alloc ?_ _)); refine blk_far ?_ NB230_239.out _; (with_reducible repeat (first | refine blk_drewN ?_ _ | refine blk_drew ?_ | refine blk_alloc ?_ _)); refine blk_far ?_ NB230_239.out _; (with_reducible repeat (first | refine blk_drewN ?_ _ | refine blk_drew ?_ | refine blk_alloc ?_ _)); exact BK230.out) hb); have n3_ := Aside0.mk (blk_below (g := gb239) (o := .cells #[.int .i64 t233, .slice Ao23 t234.length co23, .string t237] 24 (0, 0)) (by (with_reducible repeat (first | refine blk_drewN ?_ _ | refine blk_drew ?_ | refine blk_alloc ?_ _)); refine blk_put (cs := #[.int .i64 t233, .slice Ao23 t234.length co23, .string (⟨#[]⟩ : ByteArray)]) ?_ 2 _ rfl; (with_reducible repeat (first | refine blk_drewN ?_ _ | refine blk_drew ?_ | refine blk_alloc ?_ _)); refine blk_put (cs := #[.int .i64 t233, .slice none 0 0, .string (⟨#[]⟩ : ByteArray)]) ?_ 1 _ rfl; (with_reducible repeat (first | refine blk_drewN ?_ _ | refine blk_drew ?_ | refine blk_alloc ?_ _)); refine blk_put (cs := #[.int .i64 0, .slice none 0 0, .string (⟨#[]⟩ : ByteArray)]) ?_ 0 _ rfl; (with_reducible repeat (first | refine blk_drewN ?_ _ | refine blk_drew ?_ | refine blk_alloc ?_ _)); exact BK239.out) hb); have n4_ := Aside0.mk (below_step (by repeat (first | (with_reducible first | exact HB.out | apply below_alloc | apply pw_below_drewN | apply below_drew1 | refine below_set ?_ GE230.out | refine below_set ?_ GE239.out) | exact HB.out)) hb); clear HO227; clear HO236; clear BK230; clear BK239; clear HB; have HO227 := n0_; have HO236 := n1_; have BK230 := n2_; have BK239 := n3_; have HB := n4_; clear n0_ n1_ n2_ n3_ n4_; (try clear hb); (try clear hb2); (try clear hk); (try clear hi)))
      go_ret
      exact ⟨zb7, (by repeat (first | (with_reducible first | exact HB.out | apply below_alloc | apply pw_below_drewN | apply below_drew1 | refine below_set ?_ GE230.out | refine below_set ?_ GE239.out) | exact HB.out))⟩
     ·rw [if_neg c11] at H
      have c11b0 : (t238 == 0) = false := beq_eq_false_iff_ne.mpr c11
      have c11b1 : (t238 != 0) = true := bne_iff_ne.mpr c11
      exact absurd ((Option.some.inj H).trans hr) zb29
    ·rw [if_neg c10] at H
     have c10b0 : (t232 == 0) = false := beq_eq_false_iff_ne.mpr c10
     have c10b1 : (t232 != 0) = true := bne_iff_ne.mpr c10
     exact absurd ((Option.some.inj H).trans hr) zb29
   ·rw [if_neg c7] at H
    have c7b0 : (t229 == 0) = false := beq_eq_false_iff_ne.mpr c7
    have c7b1 : (t229 != 0) = true := bne_iff_ne.mpr c7
    replace H := Option.bind_eq_some_iff.mp H
    obtain ⟨t241, A480, H⟩ := H
    replace H : (some t241) = some r := H
    have A48 := Aside0.mk A480
    clear A480
    obtain rfl := Option.some.inj H
    go_enter Tryd.func4, Tryd.ntmps4
    go_wp2_with (first | ((with_reducible refine gate_callee (f := 5) rfl ?_); refine goesL_ (some 10) rfl rfl Tryd.func5 zb10 rfl #[] rfl zb1 ?_; (with_reducible refine (broadsheetlaw21_awake.calls k  true _ ?side1 A2.out (by first | rfl | exact hr)).mono ?_); (case side1 => exact Glob.below hGA.out zb0); rintro e w49 ⟨rfl, hb⟩; refine ⟨_, rfl, ?_⟩; have n0_ := Aside0.mk (below_step zb0 hb); clear HB; have HB := n0_; clear n0_; (try clear hb); (try clear hb2); (try clear hk); (try clear hi)) | ((with_reducible refine gate_callee (f := 9) rfl ?_); refine goesL_ (some 19) rfl rfl Tryd.func9 zb10 rfl #[.string a0] rfl zb1 ?_; (with_reducible refine (response_Parse.calls k a0 t224 t225 t228 t229 _ ?side1 A6.out).mono ?_); (case side1 => exact Glob.below hGA.out zb0); rintro e w50 ⟨v226, rfl, ho0, hb⟩; refine ⟨_, rfl, ?_⟩; have n0_ := Aside0.mk (Kd.R_lower ho0 (below_size zb0)); have n1_ := Aside0.mk (below_step zb0 hb); clear HB; have HO227 := n0_; have HB := n1_; clear n0_ n1_; (try clear hb); (try clear hb2); (try clear hk); (try clear hi); (try clear ho0)) | ((with_reducible refine gate_dst (N := 4) rfl ?_); refine box_event ?hg (N := 4) ?hd (cs := #[.int .i64 0, .slice none 0 0, .string (⟨#[]⟩ : ByteArray)]) (t := 24) ?hr ?_; (case hd => rfl); (case hg => rfl); (case hr => first | (go_simp; done) | (go_simp; rfl)); intro gb230 hg w51 hbox hb; have n0_ := Aside0.mk (Kd.R_below zb28 hb); have n1_ := Aside0.mk (below_step zb0 hb); have n2_ := Aside0.mk (hbox); have n3_ := Aside0.mk ((by rw [hg]; exact (below_size zb0) : w.heap.size ≤ gb230)); have n4_ := Aside0.mk ((by rw [hg]; exact (below_size zb0) : w.heap.size ≤ gb230)); clear HO227; clear HB; have HO227 := n0_; have HB := n1_; have BK230 := n2_; have GW230 := n3_; have GE230 := n4_; clear n0_ n1_ n2_ n3_ n4_; clear hb hbox hg; have hcz52_0 : w51.cell? ⟨gb230, 0, none⟩ = some (.int .i64 0) := (blk_cell BK230.out 0).trans rfl; have hcz52_1 : w51.cell? ⟨gb230, 1, none⟩ = some (.slice none 0 0) := (blk_cell BK230.out 1).trans rfl; have hcz52_2 : w51.cell? ⟨gb230, 2, none⟩ = some (.string (⟨#[]⟩ : ByteArray)) := (blk_cell BK230.out 2).trans rfl; have hfz52_0 := blk_frozen BK230.out 0; have hfz52_1 := blk_frozen BK230.out 1; have hfz52_2 := blk_frozen BK230.out 2; obtain ⟨Ao53, co53, eo53⟩ := Kd.R_slice HO227.out; subst eo53) | (go_at_call 11; (refine (broadsheetref21_Same.calls k t224 _ _ t225 t228 0 _ _ ([] : List (S35)) (⟨#[]⟩ : ByteArray) t241 _ ?side1 ?side2 ?side3 ?side4 A48.out (by first | rfl | exact hr)).mono ?_); (case side1 => refine (Kd.R_reads' (e := 35) (base := w.heap.size) (ok := fun k_ => True) (n := t225.length) (c := co53) ?_).2.2; exact zb32); (case side2 => exact (Kd.R_reads' HO227.out).2.1); (case side3 => exact Kd.C_nil _ _); (case side4 => exact Nat.le_refl _); rintro e w54 ⟨rfl, hb⟩; have n0_ := Aside0.mk (Kd.R_below zb32 hb); have n1_ := Aside0.mk (blk_below (g := gb230) (o := .cells #[.int .i64 t224, .slice Ao53 t225.length co53, .string t228] 24 (0, 0)) (by (with_reducible repeat (first | refine blk_drewN ?_ _ | refine blk_drew ?_ | refine blk_alloc ?_ _)); refine blk_put (cs := #[.int .i64 t224, .slice Ao53 t225.length co53, .string (⟨#[]⟩ : ByteArray)]) ?_ 2 _ rfl; (with_reducible repeat (first | refine blk_drewN ?_ _ | refine blk_drew ?_ | refine blk_alloc ?_ _)); refine blk_put (cs := #[.int .i64 t224, .slice none 0 0, .string (⟨#[]⟩ : ByteArray)]) ?_ 1 _ rfl; (with_reducible repeat (first | refine blk_drewN ?_ _ | refine blk_drew ?_ | refine blk_alloc ?_ _)); refine blk_put (cs := #[.int .i64 0, .slice none 0 0, .string (⟨#[]⟩ : ByteArray)]) ?_ 0 _ rfl; (with_reducible repeat (first | refine blk_drewN ?_ _ | refine blk_drew ?_ | refine blk_alloc ?_ _)); exact BK230.out) hb); have n2_ := Aside0.mk (below_step zb14 hb); clear HO227; clear BK230; clear HB; have HO227 := n0_; have BK230 := n1_; have HB := n2_; clear n0_ n1_ n2_; (try clear hb); (try clear hb2); (try clear hk); (try clear hi)))
    go_ret
    exact ⟨zb7, zb14⟩
 ·replace c3 := Bool.eq_false_iff.mpr c3
  subst c3
  replace H : (some false) = some r := by rw [if_neg (show ¬ (false = true) by decide)] at H; exact H
  exact absurd ((Option.some.inj H).trans hr) zb29
end Go.Proofs.YtaopopnlnohnpaaDoor.P
/- SpX -/
namespace Go.Proofs.YtaopopnlnohnpaaDoor.Sp
open Go Go.RowKit Go.Proofs.YtaopopnlnohnpaaDoorW.PrintWords Go.Proofs.YtaopopnlnohnpaaDoorW.PrintLast Go.Proofs.YtaopopnlnohnpaaDoor.O Go.Proofs.YtaopopnlnohnpaaDoor.P
set_option linter.unusedVariables false
set_option linter.unusedSimpArgs false
def okP (p : L × L) : Bool := isTok p.1 && fval p.2
def prs : List (L × L) → L
  | [] => []
  | p :: r => p.1 ++ 58 :: 32 :: (p.2 ++ 13 :: 10 :: prs r)
def lowP (p : L × L) : L × L := (low p.1, p.2)
/-- The lines of fields, and the error. -/
def printS (l : List (L × L)) : L × Int := if l.all okP = true then (if 8000 < (prs l ++ [13, 10]).length then ([], 2) else (prs l ++ [13, 10], 0)) else ([], 180)
theorem prs_app (a b : List (L × L)) : prs (a ++ b) = prs a ++ prs b := by
  induction a with
  | nil => rfl
  | cons p r ih => simp only [List.cons_append, prs, ih, List.append_assoc]
theorem prs_len (l : List (L × L)) : 4 * l.length ≤ (prs l).length := by
  induction l with
  | nil => simp [prs]
  | cons p r ih =>
    simp only [prs, List.length_append, List.length_cons]
    omega
theorem line13 (a b : L) (h : 13 ∉ a) : line (a ++ 13 :: 10 :: b) = some (a, b) :=
  line_app a b (fun x y e => h (by rw [e]; simp)) (fun e => h (List.mem_of_getLast? e))
theorem tok13 : tokB 13 = false := by decide
theorem fval_13 {v : L} (h : fval v = true) : 13 ∉ v := fun hm => by
  unfold fval at h
  rw [Bool.and_eq_true] at h
  have := List.all_eq_true.1 h.1 13 hm
  exact absurd this (by decide)
theorem fval_trim {v : L} (h : fval v = true) : trim v = v := by
  unfold fval at h
  rw [Bool.and_eq_true] at h
  exact of_decide_eq_true h.2
theorem pairOf_ok {p : L × L} (h : okP p = true) : pairOf (p.1 ++ 58 :: 32 :: p.2) = some (lowP p) := by
  unfold okP at h
  rw [Bool.and_eq_true] at h
  obtain ⟨h1, h2⟩ := h
  obtain ⟨hne, hall⟩ := (isTok_iff p.1).1 h1
  have e := tok_app (a := p.1) (b := 32 :: p.2) (c := 58) hall tok58
  have ht : trim (32 :: p.2) = p.2 := by
    have : trim (32 :: p.2) = trim p.2 := by
      unfold trim
      rw [show skip (32 :: p.2) = skip p.2 from List.dropWhile_cons_of_pos (by decide)]
    rw [this, fval_trim h2]
  unfold pairOf
  rw [e]
  simp only [List.head?_cons, List.tail_cons, ht]
  rw [if_neg hne, if_neg (by simp), if_pos h2]
  rfl
theorem ok13 {p : L × L} (h : okP p = true) : 13 ∉ p.1 ++ 58 :: 32 :: p.2 := by
  unfold okP at h
  rw [Bool.and_eq_true] at h
  obtain ⟨h1, h2⟩ := h
  intro hm
  rcases List.mem_append.1 hm with hm | hm
  · have := ((isTok_iff p.1).1 h1).2 13 hm
    rw [tok13] at this
    cases this
  · simp only [List.mem_cons] at hm
    rcases hm with hm | hm | hm
    · exact absurd hm (by decide)
    · exact absurd hm (by decide)
    · exact fval_13 h2 hm
theorem fparse_prs (N : Nat) (more : L) (hN : N ≤ 8000 + more.length) : ∀ (l : List (L × L)) (f : Nat) (acc : List (L × L)), l.length < f → l.all okP = true → fparse N f (prs l ++ 13 :: 10 :: more) acc = (acc ++ l.map lowP, more, 0) := by
  intro l
  induction l with
  | nil =>
    intro f acc hf _
    obtain ⟨f, rfl⟩ : ∃ f', f = f' + 1 := ⟨f - 1, by simp only [List.length_nil] at hf; omega⟩
    rw [fparse, show prs [] ++ 13 :: 10 :: more = [] ++ 13 :: 10 :: more from rfl, line13 [] more (by simp)]
    simp only
    rw [if_neg (by omega)]
    simp
  | cons p r ih =>
    intro f acc hf h
    simp only [List.length_cons] at hf
    obtain ⟨f, rfl⟩ : ∃ f', f = f' + 1 := ⟨f - 1, by omega⟩
    rw [List.all_cons, Bool.and_eq_true] at h
    have e : prs (p :: r) ++ 13 :: 10 :: more = (p.1 ++ 58 :: 32 :: p.2) ++ 13 :: 10 :: (prs r ++ 13 :: 10 :: more) := by simp [prs]
    rw [fparse, e, line13 _ _ (ok13 h.1)]
    simp only
    rw [if_neg (by rw [List.length_append, List.length_cons, List.length_cons]; omega), if_neg (by simp), pairOf_ok h.1]
    simp only
    rw [ih f (acc ++ [lowP p]) (by omega) h.2]
    simp
theorem fields_prs (l : List (L × L)) (more : L) (h : l.all okP = true) (hl : (prs l).length + 2 ≤ 8000) : fields (prs l ++ 13 :: 10 :: more) = (l.map lowP, more, 0) := by
  have h4 := prs_len l
  unfold fields
  rw [fparse_prs _ more (by rw [List.length_append, List.length_cons, List.length_cons]; omega) l _ [] (by rw [List.length_append]; omega) h, List.nil_append]
theorem low_tok : ∀ a : Fin 256, tokB (lowB (UInt8.ofNat a.val)) = tokB (UInt8.ofNat a.val) ∧ lowB (lowB (UInt8.ofNat a.val)) = lowB (UInt8.ofNat a.val) := by decide +kernel
theorem low_low (s : L) : low (low s) = low s := by
  unfold low
  rw [List.map_map]
  refine List.map_congr_left (fun c _ => ?_)
  obtain ⟨a, rfl⟩ := u8_fin c
  exact (low_tok a).2
theorem isTok_low {s : L} (h : isTok s = true) : isTok (low s) = true := by
  obtain ⟨h1, h2⟩ := (isTok_iff s).1 h
  refine (isTok_iff _).2 ⟨fun e => h1 (List.map_eq_nil_iff.1 e), fun x hx => ?_⟩
  obtain ⟨c, hc, rfl⟩ := List.mem_map.1 hx
  have := h2 c hc
  obtain ⟨a, rfl⟩ := u8_fin c
  rw [(low_tok a).1]
  exact this
theorem tok_len2 (s : L) : (tok s).1.length + (tok s).2.length = s.length := by
  have := congrArg List.length (tok_parts s).1
  rw [List.length_append] at this
  omega
theorem pairOf_back {l : L} {p : L × L} (h : pairOf l = some p) : okP p = true ∧ low p.1 = p.1 ∧ p.1.length + p.2.length + 1 ≤ l.length := by
  have hl := tok_len2 l
  obtain ⟨e1, e2, e3⟩ := tok_parts l
  unfold pairOf at h
  split at h
  · cases h
  · rename_i h0
    split at h
    · cases h
    · rename_i h58
      split at h
      · rename_i hv
        obtain rfl := Option.some.inj h
        have ht : isTok (tok l).1 = true := (isTok_iff _).2 ⟨h0, e2⟩
        have htl := trim_len (tok l).2.tail
        rw [List.length_tail] at htl
        have hpos : 0 < (tok l).2.length := by
          cases hx : (tok l).2 with
          | nil => rw [hx] at h58; simp at h58
          | cons a b => simp
        refine ⟨?_, low_low _, ?_⟩
        · unfold okP
          rw [isTok_low ht, hv]
          rfl
        · simp only [low_len]
          omega
      · cases h
theorem fparse_back (N : Nat) : ∀ (f : Nat) (s : L) (acc : List (L × L)), (fparse N f s acc).2.2 = 0 → acc.all okP = true → (∀ p ∈ acc, low p.1 = p.1) →
    (fparse N f s acc).1.all okP = true ∧ (∀ p ∈ (fparse N f s acc).1, low p.1 = p.1) ∧ (prs (fparse N f s acc).1).length + 2 + 2 * (fparse N f s acc).2.1.length ≤ (prs acc).length + 2 * s.length := by
  intro f
  induction f with
  | zero => intro s acc h; simp [fparse] at h
  | succ f ih =>
    intro s acc h ha hlw
    rw [fparse] at h ⊢
    cases e : line s with
    | none =>
      rw [e] at h
      simp only at h
      split at h <;> cases h
    | some q =>
      obtain ⟨l, more⟩ := q
      have hll := congrArg List.length (line_len s _ e)
      simp only [List.length_append, List.length_cons] at hll
      rw [e] at h
      simp only at h ⊢
      by_cases h8 : N - more.length > 8000
      · rw [if_pos h8] at h
        simp only at h
        split at h <;> cases h
      · rw [if_neg h8] at h ⊢
        by_cases h0 : l = []
        · rw [if_pos h0]
          exact ⟨ha, hlw, by simp only; omega⟩
        · rw [if_neg h0] at h ⊢
          cases e2 : pairOf l with
          | none => rw [e2] at h; cases h
          | some p =>
            rw [e2] at h
            simp only at h ⊢
            obtain ⟨g1, g2, g3⟩ := pairOf_back e2
            obtain ⟨k1, k2, k3⟩ := ih more (acc ++ [p]) h (by rw [List.all_append, ha]; simp [g1]) (fun x hx => by
              rcases List.mem_append.1 hx with hx | hx
              · exact hlw x hx
              · rw [List.mem_singleton.1 hx]; exact g2)
            refine ⟨k1, k2, ?_⟩
            rw [prs_app] at k3
            simp only [prs, List.length_append, List.length_cons, List.length_nil] at k3
            have hp : 0 < l.length := List.length_pos_iff.2 h0
            omega
theorem fields_back (s : L) (h : (fields s).2.2 = 0) : (fields s).1.all okP = true ∧ (∀ p ∈ (fields s).1, low p.1 = p.1) ∧ (prs (fields s).1).length + 2 + 2 * (fields s).2.1.length ≤ 2 * s.length := by
  have := fparse_back s.length (s.length + 1) s [] h rfl (by simp)
  unfold fields
  simpa [prs] using this
theorem lowP_id {l : List (L × L)} (h : ∀ p ∈ l, low p.1 = p.1) : l.map lowP = l := by
  conv => rhs; rw [← List.map_id l]
  refine List.map_congr_left (fun p hp => ?_)
  unfold lowP
  rw [h p hp]
  rfl
end Go.Proofs.YtaopopnlnohnpaaDoor.Sp
/- Px14 -/
namespace Go.Proofs.YtaopopnlnohnpaaDoor.P
open Go.Proofs.YtaopopnlnohnpaaDoor.B
open Go.RowKit Go.Proofs.YtaopopnlnohnpaaDoorW.PrintWords Go.Proofs.YtaopopnlnohnpaaDoorW.PrintLast Go.Proofs.YtaopopnlnohnpaaDoorW.PrintMore
attribute [local go_sem] str_leq str_gtr str_geq max2_int min2_int max_two min_two max_three min_three max_four min_four
set_option linter.unusedVariables false
set_option linter.unusedSimpArgs false
end Go.Proofs.YtaopopnlnohnpaaDoor.P
/- SpF -/
namespace Go.Proofs.YtaopopnlnohnpaaDoor.Sp
open Go Go.RowKit Go.Proofs.YtaopopnlnohnpaaDoorW.PrintWords Go.Proofs.YtaopopnlnohnpaaDoorW.PrintLast Go.Proofs.YtaopopnlnohnpaaDoor.O Go.Proofs.YtaopopnlnohnpaaDoor.P
set_option linter.unusedVariables false
set_option linter.unusedSimpArgs false
theorem w1 (i : Nat) (h : i ≤ 1000000000000) : wrap64 ((i : Int) + 1) = ((i + 1 : Nat) : Int) := by rw [wrap_id (by omega) (by omega)]; omega
theorem w2 (i : Nat) (h : i ≤ 1000000000000) : wrap64 ((i : Int) + 2) = ((i + 2 : Nat) : Int) := by rw [wrap_id (by omega) (by omega)]; omega
def fldB (r : List (L × L) × L × Int) : List S35 × ByteArray × Int := (pairsB r.1, mk r.2.1, r.2.2)
def vals (l : List (L × L)) (n : L) : List L := (l.filter fun p => low p.1 == low n).map (·.2)
def get (l : List (L × L)) (n : L) : L × Int := (Lib.join (vals l n) [44, 32], ((vals l n).length : Int))
theorem rd_pairs (l : List (L × L)) (i : Nat) (p : L × L) (h : l[i]? = some p) : rd_T35 (pairsB l) (i : Int) = ⟨mk p.1, mk p.2⟩ := by
  unfold rd_T35 pairsB
  rw [Int.toNat_natCast, List.getD_eq_getElem?_getD, List.getElem?_map, h]
  rfl
theorem vals_cons (p : L × L) (r : List (L × L)) (n : L) : vals (p :: r) n = if low p.1 = low n then p.2 :: vals r n else vals r n := by
  unfold vals
  by_cases h : low p.1 = low n
  · rw [List.filter_cons_of_pos (by simp [h]), if_pos h]
    rfl
  · rw [List.filter_cons_of_neg (by simp [h]), if_neg h]
theorem get_l0 (l : List (L × L)) (n : L) (hn : n.length ≤ 1000000) (hl : l.length ≤ 1000000) (hp : ∀ p ∈ l, p.1.length ≤ 1000000) : ∀ (d k i : Nat) (acc : List L), i + d = l.length → d < k → acc.length ≤ i → (Lib.join (acc ++ vals (l.drop i) n) [44, 32]).length ≤ 140737488355328 →
    field_Get.l0 k (mk n) (acc.map mk) (pairsB l) (l.length : Int) (i : Int) = some (mk (Lib.join (acc ++ vals (l.drop i) n) [44, 32]), ((acc ++ vals (l.drop i) n).length : Int)) := by
  intro d
  induction d with
  | zero =>
    intro k i acc hi hk ha hj
    obtain ⟨k, rfl⟩ : ∃ k', k = k' + 1 := ⟨k - 1, by omega⟩
    rw [List.drop_eq_nil_of_le (by omega)] at hj ⊢
    rw [show vals [] n = [] from rfl, List.append_nil] at hj ⊢
    have hm : (acc.map mk).map (·.data.toList) = acc := by rw [List.map_map]; conv => rhs; rw [← List.map_id acc]
                                                           exact List.map_congr_left (fun x _ => mk_data x)
    rw [field_Get.l0, if_neg (by omega), strings_Join.f]
    unfold joinB
    rw [hm, show (⟨#[44, 32]⟩ : ByteArray).data.toList = [44, 32] from rfl, if_pos ⟨by rw [List.length_map]; omega, hj⟩]
    simp only [Option.bind_some, List.length_map]
    rfl
  | succ d ih =>
    intro k i acc hi hk ha hj
    obtain ⟨k, rfl⟩ : ∃ k', k = k' + 1 := ⟨k - 1, by omega⟩
    have hlt : i < l.length := by omega
    have hw : wrap64 ((i : Int) + 1) = ((i + 1 : Nat) : Int) := by rw [wrap_id (by omega) (by omega)]; omega
    have hmem := hp l[i] (List.getElem_mem hlt)
    rw [List.drop_eq_getElem_cons hlt, vals_cons] at hj ⊢
    rw [field_Get.l0, if_pos (by omega), if_pos (by omega), if_pos (by rw [pairsB_len]; omega), rd_pairs l i l[i] (List.getElem?_eq_getElem hlt), lowF _ (by omega), Option.bind_some, lowF _ (by omega), Option.bind_some, tl_mk, tl_mk]
    by_cases h : low l[i].1 = low n
    · rw [if_pos h] at hj ⊢
      rw [if_pos h, if_pos (by rw [List.length_map]; omega), hw]
      have := ih k (i + 1) (acc ++ [l[i].2]) (by omega) (by omega) (by rw [List.length_append, List.length_singleton]; omega) (by rw [List.append_assoc]; exact hj)
      rw [List.map_append, List.append_assoc] at this
      exact this
    · rw [if_neg h] at hj ⊢
      rw [if_neg h, hw]
      exact ih k (i + 1) acc (by omega) (by omega) (by omega) hj
theorem getF (l : List (L × L)) (n : L) (k : Nat) (hn : n.length ≤ 1000000) (hl : l.length ≤ 1000000) (hp : ∀ p ∈ l, p.1.length ≤ 1000000) (hj : (get l n).1.length ≤ 140737488355328) (hk : l.length < k) : field_Get.f k (pairsB l) (mk n) = some (mk (get l n).1, (get l n).2) := by
  have := get_l0 l n hn hl hp l.length k 0 [] (by omega) hk (by simp) (by simpa [get] using hj)
  unfold field_Get.f
  rw [pairsB_len]
  simpa [get] using this
theorem pairOf_len {l : L} {p : L × L} (h : pairOf l = some p) : p.1.length ≤ l.length ∧ p.2.length ≤ l.length := by
  have h1 : (tok l).1.length ≤ l.length := tw_len _ _
  have h2 : (tok l).2.length ≤ l.length := dw_len _ _
  unfold pairOf at h
  split at h
  · cases h
  · split at h
    · cases h
    · split at h
      · obtain rfl := Option.some.inj h
        have := trim_len (tok l).2.tail
        rw [List.length_tail] at this
        exact ⟨by rw [low_len]; exact h1, by simp only; omega⟩
      · cases h
theorem fparse_len (N M : Nat) : ∀ (f : Nat) (s : L) (acc : List (L × L)), s.length ≤ M → acc.length + s.length ≤ M → (∀ p ∈ acc, p.1.length ≤ M ∧ p.2.length ≤ M) →
    (fparse N f s acc).1.length ≤ M ∧ (∀ p ∈ (fparse N f s acc).1, p.1.length ≤ M ∧ p.2.length ≤ M) ∧ (fparse N f s acc).2.1.length ≤ M := by
  intro f
  induction f with
  | zero => intro s acc _ _ _; simp [fparse]
  | succ f ih =>
    intro s acc hs ha hp
    rw [fparse]
    cases e : line s with
    | none => simp
    | some p =>
      obtain ⟨l, more⟩ := p
      have hl := congrArg List.length (line_len s _ e)
      simp only [List.length_append, List.length_cons] at hl
      simp only
      split
      · simp
      · split
        · exact ⟨by simp only; omega, hp, by simp only; omega⟩
        · cases e2 : pairOf l with
          | none => simp
          | some q =>
            have hq := pairOf_len e2
            refine ih more (acc ++ [q]) (by omega) (by rw [List.length_append, List.length_singleton]; omega) (fun p hpm => ?_)
            rcases List.mem_append.1 hpm with hpm | hpm
            · exact hp p hpm
            · obtain rfl := List.mem_singleton.1 hpm
              exact ⟨by omega, by omega⟩
theorem fields_len (s : L) : (fields s).1.length ≤ s.length ∧ (∀ p ∈ (fields s).1, p.1.length ≤ s.length ∧ p.2.length ≤ s.length) ∧ (fields s).2.1.length ≤ s.length :=
  fparse_len s.length s.length _ s [] (Nat.le_refl _) (by simp) (by simp)
theorem joinTail_len (M : Nat) (r : List L) (h : ∀ x ∈ r, x.length ≤ M) : (Lib.joinTail [44, 32] r).length ≤ r.length * (M + 2) := by
  induction r with
  | nil => simp [Lib.joinTail]
  | cons x r ih =>
    have h1 := ih (fun y hy => h y (List.mem_cons_of_mem _ hy))
    have h2 := h x List.mem_cons_self
    have e : Lib.joinTail [44, 32] (x :: r) = [44, 32] ++ x ++ Lib.joinTail [44, 32] r := by simp [Lib.joinTail]
    rw [e]
    simp only [List.length_append, List.length_cons, List.length_nil]
    rw [Nat.add_mul, Nat.one_mul]
    omega
theorem join_len (M : Nat) (l : List L) (h : ∀ x ∈ l, x.length ≤ M) : (Lib.join l [44, 32]).length ≤ l.length * (M + 2) := by
  cases l with
  | nil => simp [Lib.join_nil]
  | cons x r =>
    have h1 := joinTail_len M r (fun y hy => h y (List.mem_cons_of_mem _ hy))
    have h2 := h x List.mem_cons_self
    rw [Lib.join_cons, List.length_append, List.length_cons, Nat.succ_mul]
    omega
theorem vals_len (l : List (L × L)) (n : L) : (vals l n).length ≤ l.length := by
  unfold vals
  rw [List.length_map]
  exact List.length_filter_le _ _
theorem get_len (l : List (L × L)) (n : L) (M : Nat) (h : ∀ p ∈ l, p.2.length ≤ M) : (get l n).1.length ≤ l.length * (M + 2) := by
  have h1 := join_len M (vals l n) (fun x hx => by
    unfold vals at hx
    obtain ⟨p, hp, rfl⟩ := List.mem_map.1 hx
    exact h p (List.mem_filter.1 hp).1)
  exact Nat.le_trans h1 (Nat.mul_le_mul_right _ (vals_len l n))
theorem get_bound (l : List (L × L)) (n : L) (hl : l.length ≤ 100000) (hp : ∀ p ∈ l, p.1.length ≤ 100000 ∧ p.2.length ≤ 100000) : (get l n).1.length ≤ 10000200000 :=
  Nat.le_trans (get_len _ _ 100000 (fun p h => (hp p h).2)) (Nat.mul_le_mul (show l.length ≤ 100000 from hl) (Nat.le_refl 100002))
theorem rsame_l0 (l : List (L × L)) (hl : l.length ≤ 1000000) : ∀ (d k i : Nat), i + d = l.length → d < k → broadsheetref07_SamePairs.l0 k (pairsB l) (pairsB l) i = some true := by
  intro d
  induction d with
  | zero =>
    intro k i hi hk
    obtain ⟨k, rfl⟩ : ∃ k', k = k' + 1 := ⟨k - 1, by omega⟩
    rw [broadsheetref07_SamePairs.l0, if_neg (by rw [pairsB_len]; omega)]
  | succ d ih =>
    intro k i hi hk
    obtain ⟨k, rfl⟩ : ∃ k', k = k' + 1 := ⟨k - 1, by omega⟩
    rw [broadsheetref07_SamePairs.l0, if_pos (by rw [pairsB_len]; omega), if_pos (by omega), if_pos (by rw [pairsB_len]; omega), if_neg (by simp), w1 i (by omega)]
    exact ih k (i + 1) (by omega) (by omega)
theorem rsameF (l : List (L × L)) (k : Nat) (hl : l.length ≤ 1000000) (hk : l.length < k) : broadsheetref07_SamePairs.f k (pairsB l) (pairsB l) = some true := by
  unfold broadsheetref07_SamePairs.f
  rw [if_pos rfl]
  exact rsame_l0 l hl l.length k 0 (by omega) hk
/-- What is told of fields, behind what is told already. -/
def printA (acc : L) (l : List (L × L)) : L × Int := if l.all okP = true then (if 8000 < (acc ++ prs l ++ [13, 10]).length then ([], 2) else (acc ++ prs l ++ [13, 10], 0)) else ([], 180)
theorem printA_nil (l : List (L × L)) : printA [] l = printS l := rfl
theorem printA_cons (acc : L) (p : L × L) (l : List (L × L)) : printA acc (p :: l) = if okP p = true then printA (acc ++ (p.1 ++ 58 :: 32 :: (p.2 ++ [13, 10]))) l else ([], 180) := by
  have e : acc ++ prs (p :: l) ++ [13, 10] = acc ++ (p.1 ++ 58 :: 32 :: (p.2 ++ [13, 10])) ++ prs l ++ [13, 10] := by simp [prs]
  unfold printA
  rw [e, List.all_cons]
  by_cases h : okP p = true
  · rw [if_pos h, h, Bool.true_and]
  · rw [if_neg h, Bool.eq_false_iff.2 h, Bool.false_and, if_neg (by decide)]
theorem wsF (a b : L) (h : a.length + b.length ≤ 100000000000) : ∃ n e, Builder_WriteString.f (mk a) (mk b) = some (n, e, mk (a ++ b)) := by
  unfold Builder_WriteString.f
  rw [if_pos (by rw [mk_size, mk_size]; omega), mk_append]
  exact ⟨_, _, rfl⟩
theorem okP_parts (p : L × L) : okP p = (isTok p.1 && fval p.2) := rfl
theorem fprint_l0 (l : List (L × L)) (hl : l.length ≤ 100000) (hp : ∀ p ∈ l, p.1.length ≤ 100000 ∧ p.2.length ≤ 100000) : ∀ (d k i : Nat) (acc : L), i + d = l.length → d + 100002 < k → acc.length + d * 300000 ≤ 90000000000 →
    field_Print.l0 k (pairsB l) (l.length : Int) (i : Int) (mk acc) = some (mk (printA acc (l.drop i)).1, (printA acc (l.drop i)).2) := by
  intro d
  induction d with
  | zero =>
    intro k i acc hi hk ha
    obtain ⟨k, rfl⟩ : ∃ k', k = k' + 1 := ⟨k - 1, by omega⟩
    rw [List.drop_eq_nil_of_le (by omega), field_Print.l0, if_neg (by omega), show (⟨#[13, 10]⟩ : ByteArray) = mk [13, 10] from rfl]
    obtain ⟨n, e, hw⟩ := wsF acc [13, 10] (by simp only [List.length_cons, List.length_nil]; omega)
    rw [hw, Option.bind_some, Builder_Len.f, Option.bind_some]
    unfold printA
    simp only [List.all_nil, if_true, prs, List.append_nil, mk_size]
    by_cases h : 8000 < (acc ++ [13, 10]).length
    · rw [if_pos (by omega), if_pos h]; rfl
    · rw [if_neg (by omega), if_neg h, Builder_String.f, Option.bind_some]
  | succ d ih =>
    intro k i acc hi hk ha
    obtain ⟨k, rfl⟩ : ∃ k', k = k' + 1 := ⟨k - 1, by omega⟩
    have hlt : i < l.length := by omega
    obtain ⟨h1, h2⟩ := hp l[i] (List.getElem_mem hlt)
    rw [List.drop_eq_getElem_cons hlt, printA_cons, okP_parts]
    rw [field_Print.l0, if_pos (by omega), if_pos (by omega), if_pos (by rw [pairsB_len]; omega), rd_pairs l i l[i] (List.getElem?_eq_getElem hlt)]
    simp only
    rw [isTokF _ k (by omega) (by omega), Option.bind_some, fvalF _ (by omega), Option.bind_some]
    by_cases ht : isTok l[i].1 = true
    · by_cases hv : fval l[i].2 = true
      · have e1 : (⟨#[58, 32]⟩ : ByteArray) = mk [58, 32] := rfl
        have e2 : (⟨#[13, 10]⟩ : ByteArray) = mk [13, 10] := rfl
        rw [if_pos ht, if_pos hv, e1, e2, mk_append, mk_append, mk_append, if_pos (by rw [mk_size]; omega), if_pos (by rw [mk_size, mk_size, List.length_append]; simp only [List.length_cons, List.length_nil]; omega), if_pos (by rw [mk_size, List.length_append, List.length_append]; simp only [List.length_cons, List.length_nil]; omega)]
        obtain ⟨n, e, hw⟩ := wsF acc (l[i].1 ++ [58, 32] ++ l[i].2 ++ [13, 10]) (by simp only [List.length_append, List.length_cons, List.length_nil]; omega)
        rw [hw, Option.bind_some, w1 i (by omega)]
        simp only
        rw [ih k (i + 1) _ (by omega) (by omega) (by simp only [List.length_append, List.length_cons, List.length_nil]; omega)]
        simp [ht, hv]
      · rw [if_pos ht, if_neg hv]
        simp [ht, hv]
        rfl
    · rw [if_neg ht]
      simp [ht]
      rfl
theorem fprintF (l : List (L × L)) (k : Nat) (hl : l.length ≤ 16000) (hp : ∀ p ∈ l, p.1.length ≤ 100000 ∧ p.2.length ≤ 100000) (hk : 200000 ≤ k) : field_Print.f k (pairsB l) = some (mk (printS l).1, (printS l).2) := by
  have := fprint_l0 l (by omega) hp l.length k 0 [] (by omega) (by omega) (by simp; omega)
  unfold field_Print.f
  rw [pairsB_len]
  rw [List.drop_zero, printA_nil] at this
  exact this
end Go.Proofs.YtaopopnlnohnpaaDoor.Sp
/- SpQ -/
namespace Go.Proofs.YtaopopnlnohnpaaDoor.Mn
open Go.RowKit Go.Proofs.YtaopopnlnohnpaaDoorW.PrintWords Go.Proofs.YtaopopnlnohnpaaDoorW.PrintLast Go.Proofs.YtaopopnlnohnpaaDoor.O
set_option linter.unusedVariables false
set_option linter.unusedSimpArgs false
abbrev L := List UInt8
def cut (c : UInt8) : L → List L
  | [] => [[]]
  | x :: r => if x = c then [] :: cut c r else match cut c r with
    | [] => [[x]]
    | y :: z => (x :: y) :: z
theorem cut_ne (c : UInt8) (l : L) : cut c l ≠ [] := by
  cases l with
  | nil => simp [cut]
  | cons x r =>
    unfold cut
    split
    · simp
    · split <;> simp
theorem cut_other (c x : UInt8) (r : L) (h : x ≠ c) : ∃ y z, cut c r = y :: z ∧ cut c (x :: r) = (x :: y) :: z := by
  cases e : cut c r with
  | nil => exact absurd e (cut_ne c r)
  | cons y z => exact ⟨y, z, rfl, by simp [cut, h, e]⟩
theorem cut_none (c : UInt8) : ∀ (a : L), c ∉ a → cut c a = [a]
  | [], _ => rfl
  | x :: a, h => by
    obtain ⟨y, z, e1, e2⟩ := cut_other c x a (fun e => h (by simp [e]))
    rw [cut_none c a (fun e => h (by simp [e]))] at e1
    obtain ⟨rfl, rfl⟩ := List.cons.inj e1
    exact e2
theorem dg_lt (u : Nat) (h : u < 10) : (UInt8.ofNat (48 + u)).toNat = 48 + u := by
  rw [UInt8.toNat_ofNat']; omega
theorem dec_mem (u : Nat) : ∀ c ∈ Lib.decDigits u, 48 ≤ c.toNat ∧ c.toNat ≤ 57 := by
  induction u using Nat.strongRecOn with
  | _ u ih =>
    intro c hc
    rw [Lib.decDigits] at hc
    split at hc
    · rename_i h
      obtain rfl := List.mem_singleton.1 hc
      rw [dg_lt u h]; omega
    · rename_i h
      rcases List.mem_append.1 hc with hc | hc
      · exact ih (u / 10) (by omega) c hc
      · obtain rfl := List.mem_singleton.1 hc
        rw [dg_lt _ (by omega)]; omega
theorem dec_len (k : Nat) : ∀ u, u < 10 ^ (k + 1) → (Lib.decDigits u).length ≤ k + 1 := by
  induction k with
  | zero =>
    intro u h
    rw [Lib.decDigits, dif_pos (by omega)]
    simp
  | succ k ih =>
    intro u h
    rw [Lib.decDigits]
    split
    · simp
    · have := ih (u / 10) (by rw [Nat.pow_succ] at h; omega)
      simp only [List.length_append, List.length_singleton]
      omega
/-- The reader of numerals that the document has. -/
def dec (n : Int) : L := Lib.decDigits n.toNat
theorem itoa_dec (n : Int) (h : 0 ≤ n) : Lib.itoa n = dec n := by
  unfold Lib.itoa dec
  rw [if_neg (by omega)]
end Go.Proofs.YtaopopnlnohnpaaDoor.Mn
/- SpL -/
namespace Go.Proofs.YtaopopnlnohnpaaDoor.Sp
open Go Go.RowKit Go.Proofs.YtaopopnlnohnpaaDoorW.PrintWords Go.Proofs.YtaopopnlnohnpaaDoorW.PrintLast Go.Proofs.YtaopopnlnohnpaaDoor.O Go.Proofs.YtaopopnlnohnpaaDoor.P
set_option linter.unusedVariables false
set_option linter.unusedSimpArgs false
theorem fldF (s : L) (hs : s.length < 4294967281) : field_Parse.f (mk s) = some (fldB (fields s)) := by
  unfold field_Parse.f fieldsB
  rw [if_pos (by rw [mk_size]; exact hs), mk_data]
  rfl
theorem line_cut (s : L) : (line s = none ∧ Lib.cut s [13, 10] = (s, [], false)) ∨ (∃ p, line s = some p ∧ Lib.cut s [13, 10] = (p.1, p.2, true)) := by
  cases e : line s with
  | none =>
    have hb : lineB (mk s) = none := by unfold lineB; rw [mk_data, e]; rfl
    have := cut_none (mk s) hb
    rw [mk_data] at this
    exact .inl ⟨rfl, this⟩
  | some p =>
    have hb : lineB (mk s) = some (mk p.1, mk p.2) := by unfold lineB; rw [mk_data, e]; rfl
    have := cut_some (mk s) (mk p.1) (mk p.2) hb
    rw [mk_data, mk_data, mk_data] at this
    exact .inr ⟨p, rfl, this⟩
def sts : List Int := [200, 201, 204, 304, 400, 404, 405, 406, 409, 412, 413, 415, 431, 500, 503, 507]
theorem reason_out {n : Int} (h : n ∉ sts) : reasonS n = [] := by
  simp only [sts, List.mem_cons, List.not_mem_nil, or_false, not_or] at h
  obtain ⟨h0, h1, h2, h3, h4, h5, h6, h7, h8, h9, h10, h11, h12, h13, h14, h15⟩ := h
  unfold reasonS reasonL
  simp only [List.foldl_cons, List.foldl_nil]
  rw [if_neg (fun e => h15 e.symm), if_neg (fun e => h14 e.symm), if_neg (fun e => h13 e.symm), if_neg (fun e => h12 e.symm), if_neg (fun e => h11 e.symm), if_neg (fun e => h10 e.symm), if_neg (fun e => h9 e.symm), if_neg (fun e => h8 e.symm), if_neg (fun e => h7 e.symm), if_neg (fun e => h6 e.symm), if_neg (fun e => h5 e.symm), if_neg (fun e => h4 e.symm), if_neg (fun e => h3 e.symm), if_neg (fun e => h2 e.symm), if_neg (fun e => h1 e.symm), if_neg (fun e => h0 e.symm)]
theorem reason_in {n : Int} (h : reasonS n ≠ []) : n ∈ sts := by
  by_cases hn : n ∈ sts
  · exact hn
  · exact absurd (reason_out hn) h
theorem reason_ne : ∀ n ∈ sts, reasonS n ≠ [] := by decide +kernel
theorem sts_bd : ∀ n ∈ sts, 200 ≤ n ∧ n ≤ 507 := by decide +kernel
theorem reason_len : ∀ n ∈ sts, (reasonS n).length ≤ 40 := by decide +kernel
theorem reasonF (n : Int) (h1 : -9223372036854775808 ≤ n) (h2 : n ≤ 9223372036854775807) : response_Reason.f n = some (mk (reasonS n)) := by
  unfold response_Reason.f
  rw [if_pos ⟨h1, h2⟩]
  rfl
def bareI (n : Int) : Bool := decide (n = 204) || decide (n = 304)
theorem bareF (n : Int) : response_bare.f n = some (bareI n) := by
  unfold response_bare.f bareI
  by_cases h : n = 204
  · rw [if_pos h]; simp [h]
  · rw [if_neg h]
    by_cases h2 : n = 304 <;> simp [h, h2]
theorem itoF (n : Int) (h0 : 0 ≤ n) (h : n < 1000000000000) : strconv_Itoa.f n = some (mk (Mn.dec n)) := by
  unfold strconv_Itoa.f
  rw [if_pos ⟨by omega, by omega⟩, Mn.itoa_dec n h0]
  rfl
theorem dec_ln (n : Int) (h : n < 1000000000000) : (Mn.dec n).length ≤ 12 := Mn.dec_len 11 n.toNat (by omega)
def dig3 (n : Nat) : L := [UInt8.ofNat (48 + n / 100), UInt8.ofNat (48 + n / 10 % 10), UInt8.ofNat (48 + n % 10)]
theorem dec3 (n : Nat) (h1 : 100 ≤ n) (h2 : n < 1000) : Lib.decDigits n = dig3 n := by
  rw [Lib.decDigits, dif_neg (by omega), Lib.decDigits, dif_neg (by omega), Lib.decDigits, dif_pos (by omega)]
  unfold dig3
  rw [Nat.div_div_eq_div_mul]
  rfl
def verL : L := [72, 84, 84, 80, 47, 49, 46, 49, 32]
def firstL (n : Int) : L := verL ++ dig3 n.toNat ++ [32] ++ reasonS n
theorem dec_sts {n : Int} (h : n ∈ sts) : Mn.dec n = dig3 n.toNat := by
  have := sts_bd n h
  exact dec3 n.toNat (by omega) (by omega)
theorem firstF {n : Int} (h : n ∈ sts) : response_first.f n = some (mk (firstL n)) := by
  have hb := sts_bd n h
  have hr := reason_len n h
  have e1 : (⟨#[72, 84, 84, 80, 47, 49, 46, 49, 32]⟩ : ByteArray) = mk verL := rfl
  have e2 : (⟨#[32]⟩ : ByteArray) = mk [32] := rfl
  have hd : (dig3 n.toNat).length = 3 := rfl
  have hv : verL.length = 9 := rfl
  unfold response_first.f
  rw [itoF n (by omega) (by omega), Option.bind_some, dec_sts h, e1, e2, mk_append, mk_append, if_pos (by rw [mk_size, hd]; omega), if_pos (by rw [mk_size, List.length_append, hd, hv]; omega), reasonF n (by omega) (by omega), Option.bind_some, if_pos (by rw [mk_size, mk_size]; simp only [List.length_append, hd, hv, List.length_singleton]; omega), mk_append]
  rfl
def statusS (l : L) : Int := (sts.find? fun n => decide (l = firstL n)).getD 0
theorem status_of {n : Int} (h : n ∈ sts) : statusS (firstL n) = n := by
  revert n
  show ∀ n ∈ sts, statusS (firstL n) = n
  decide +kernel
theorem status_no {l : L} (h : ∀ n ∈ sts, l ≠ firstL n) : statusS l = 0 := by
  unfold statusS
  rw [List.find?_eq_none.2 (fun n hn => by simpa using h n hn)]
  rfl
theorem status_cases (l : L) : (∃ n ∈ sts, l = firstL n ∧ statusS l = n) ∨ ((∀ n ∈ sts, l ≠ firstL n) ∧ statusS l = 0) := by
  by_cases h : ∃ n ∈ sts, l = firstL n
  · obtain ⟨n, h1, rfl⟩ := h
    exact .inl ⟨n, h1, rfl, status_of h1⟩
  · exact .inr ⟨fun n hn e => h ⟨n, hn, e⟩, status_no (fun n hn e => h ⟨n, hn, e⟩)⟩
theorem atoi_rng (l : L) : -9223372036854775808 ≤ (atoiF l).1 ∧ (atoiF l).1 ≤ 9223372036854775807 := by
  unfold atoiF
  match h : Lib.atoiAll l with
  | Lib.NumEnd.syntax => simp only; decide
  | .range =>
    simp only
    unfold Lib.atoiSat
    split <;> decide
  | .ok v =>
    simp only
    unfold Lib.atoiAll at h
    split at h
    · cases h
    · simp only at h
      split at h
      · cases h
      · cases h
      · split at h
        · cases h
        · rename_i h1
          split at h
          · cases h
          · rename_i h2
            injection h with h
            split at h <;> omega
theorem stat_at : ∀ n ∈ sts, (atoiF (Lib.cut (Lib.trimPrefix (firstL n) verL) [32]).1).1 = n := by
  decide +kernel
theorem statusF (l : L) (h : l.length ≤ 4000000000) : response_status.f (mk l) = some (statusS l) := by
  have htl : (Lib.trimPrefix l verL).length ≤ l.length := by
    unfold Lib.trimPrefix
    split
    · rw [List.length_drop]; omega
    · exact Nat.le_refl _
  have hcl : (Lib.cut (Lib.trimPrefix l verL) [32]).1.length ≤ l.length := by
    rcases index1 32 (Lib.trimPrefix l verL) with ⟨e1, _⟩ | ⟨x, y, e1, e2, _⟩
    · rw [cut1_none e1]; exact htl
    · have e := cut1_some x y e2
      rw [← e1] at e
      rw [e]
      have := congrArg List.length e1
      rw [List.length_append] at this
      simp only
      omega
  obtain ⟨v1, v2⟩ := atoi_rng (Lib.cut (Lib.trimPrefix l verL) [32]).1
  have hst := stat_at
  unfold response_status.f strings_TrimPrefix.f
  rw [Option.bind_some, show (⟨#[72, 84, 84, 80, 47, 49, 46, 49, 32]⟩ : ByteArray) = mk verL from rfl, mk_data, mk_data, show (⟨(Lib.trimPrefix l verL).toArray⟩ : ByteArray) = mk (Lib.trimPrefix l verL) from rfl, show (⟨#[32]⟩ : ByteArray) = mk [32] from rfl, cut_l, if_pos (by omega), Option.bind_some]
  simp only
  unfold strconv_Atoi.f
  rw [if_pos (by rw [mk_size]; omega), Option.bind_some, mk_data]
  have key : ∀ v : Int, -9223372036854775808 ≤ v → v ≤ 9223372036854775807 → (∀ n ∈ sts, l = firstL n → v = n) → ((response_Reason.f v).bind fun t145 => (if t145.toList = ([] : List UInt8) then (some 0) else ((response_first.f v).bind fun t146 => (if t146.toList = (mk l).toList then (some v) else (some 0))))) = some (statusS l) := by
    intro v h1 h2 hv
    rw [reasonF v h1 h2, Option.bind_some, tl_mk]
    rcases status_cases l with ⟨n, hn, e1, e2⟩ | ⟨hno, e2⟩
    · obtain rfl := hv n hn e1
      rw [if_neg (reason_ne v hn), firstF hn, Option.bind_some, tl_mk, tl_mk, if_pos e1.symm, e2]
    · rw [e2]
      by_cases hr : reasonS v = []
      · rw [if_pos hr]
      · rw [if_neg hr, firstF (reason_in hr), Option.bind_some, tl_mk, tl_mk, if_neg (fun e => hno v (reason_in hr) e.symm)]
  have hk := key (atoiF (Lib.cut (Lib.trimPrefix l verL) [32]).1).1 v1 v2 (fun n hn e => by rw [e]; exact hst n hn)
  by_cases hi : (atoiF (Lib.cut (Lib.trimPrefix l verL) [32]).1).2.isNone = true
  · rw [if_pos hi]; exact hk
  · rw [if_neg hi]; exact hk
def clenL : L := [99, 111, 110, 116, 101, 110, 116, 45, 108, 101, 110, 103, 116, 104]
def CLenL : L := [67, 111, 110, 116, 101, 110, 116, 45, 76, 101, 110, 103, 116, 104]
def withLen (n : Int) (l : List (L × L)) (b : L) : List (L × L) := if bareI n = true then l else l ++ [(CLenL, Mn.dec b.length)]
def printR (n : Int) (l : List (L × L)) (b : L) : L × Int :=
  if reasonS n = [] ∨ (bareI n = true ∧ b ≠ []) then ([], 1) else if 100000 < b.length then ([], 2) else if 0 < (get l clenL).2 then ([], 180)
  else if (printS (withLen n l b)).2 = 0 then (firstL n ++ [13, 10] ++ (printS (withLen n l b)).1 ++ b, 0) else ([], (printS (withLen n l b)).2)
def Short (l : List (L × L)) : Prop := l.length ≤ 15000 ∧ ∀ p ∈ l, p.1.length ≤ 100000 ∧ p.2.length ≤ 100000
theorem printS_len (l : List (L × L)) : (printS l).1.length ≤ 8000 := by
  unfold printS
  split
  · split
    · simp
    · simp only; omega
  · simp
theorem short_with {n : Int} {l : List (L × L)} {b : L} (h : Short l) (hb : b.length ≤ 100000) : (withLen n l b).length ≤ 16000 ∧ ∀ p ∈ withLen n l b, p.1.length ≤ 100000 ∧ p.2.length ≤ 100000 := by
  have hd := dec_ln (b.length : Int) (by omega)
  have h1 := h.1
  unfold withLen
  split
  · exact ⟨by omega, h.2⟩
  · refine ⟨by rw [List.length_append, List.length_singleton]; omega, fun p hp => ?_⟩
    rcases List.mem_append.1 hp with hp | hp
    · exact h.2 p hp
    · rw [List.mem_singleton.1 hp]
      exact ⟨show CLenL.length ≤ 100000 by decide, by simp only; omega⟩
theorem get_bd {l : List (L × L)} (h : Short l) (n : L) : (get l n).1.length ≤ 10000200000 := get_bound l n (by have := h.1; omega) h.2
theorem lensF {l : List (L × L)} (k : Nat) (h : Short l) (hk : 200000 ≤ k) : response_lengths.f k (pairsB l) = some (get l clenL).2 := by
  unfold response_lengths.f
  have h1 := h.1
  rw [show (⟨#[99, 111, 110, 116, 101, 110, 116, 45, 108, 101, 110, 103, 116, 104]⟩ : ByteArray) = mk clenL from rfl, getF l clenL k (by decide) (by omega) (fun p hp => by have := h.2 p hp; omega) (by have := get_bd h clenL; omega) (by omega)]
  rfl
theorem pairs_with (l : List (L × L)) (v : L) : pairsB l ++ [(⟨(⟨#[67, 111, 110, 116, 101, 110, 116, 45, 76, 101, 110, 103, 116, 104]⟩ : ByteArray), mk v⟩ : S35)] = pairsB (l ++ [(CLenL, v)]) := by
  rw [pairsB_app]
  rfl
theorem first_len {n : Int} (h : n ∈ sts) : (firstL n).length ≤ 60 := by
  have := reason_len n h
  unfold firstL
  simp only [List.length_append, List.length_cons, List.length_nil, verL, dig3]
  omega
theorem pj1 {n : Int} (l' l : List (L × L)) (b : L) (k : Nat) (hn : n ∈ sts) (hl : l'.length ≤ 16000 ∧ ∀ p ∈ l', p.1.length ≤ 100000 ∧ p.2.length ≤ 100000) (hb : b.length ≤ 100000) (hk : 1000000 ≤ k) :
    response_Print.j1 k (pairsB l') n (pairsB l) (mk b) = some (if (printS l').2 = 0 then (mk (firstL n ++ [13, 10] ++ (printS l').1 ++ b), 0) else (⟨#[]⟩, (printS l').2)) := by
  obtain ⟨k, rfl⟩ : ∃ k', k = k' + 1 := ⟨k - 1, by omega⟩
  have h1 := printS_len l'
  have h2 := first_len hn
  rw [response_Print.j1, fprintF l' k hl.1 hl.2 (by omega), Option.bind_some]
  simp only
  by_cases h : (printS l').2 = 0
  · rw [if_pos h, if_pos h, firstF hn, Option.bind_some, show (⟨#[13, 10]⟩ : ByteArray) = mk [13, 10] from rfl, mk_append, mk_append, mk_append, if_pos (by rw [mk_size]; omega), if_pos (by rw [mk_size, mk_size, List.length_append]; simp only [List.length_cons, List.length_nil]; omega), if_pos (by rw [mk_size, mk_size]; simp only [List.length_append, List.length_cons, List.length_nil]; omega)]
  · rw [if_neg h, if_neg h]
theorem printF (n : Int) (l : List (L × L)) (b : L) (k : Nat) (hn1 : -9223372036854775808 ≤ n) (hn2 : n ≤ 9223372036854775807) (hl : Short l) (hb : b.length ≤ 1000000) (hk : 2000000 ≤ k) : response_Print.f k n (pairsB l) (mk b) = some (mk (printR n l b).1, (printR n l b).2) := by
  obtain ⟨k, rfl⟩ : ∃ k', k = k' + 1 := ⟨k - 1, by omega⟩
  unfold response_Print.f printR
  rw [reasonF n hn1 hn2, Option.bind_some, tl_mk]
  by_cases h0 : reasonS n = []
  · rw [if_pos h0, if_pos (.inl h0), response_Print.j0, if_pos (by simp [h0])]
    rfl
  rw [if_neg h0, bareF, Option.bind_some, tl_mk]
  have hj : (if bareI n = true then (response_Print.j0 (k + 1) (b != ([] : List UInt8)) n (pairsB l) (mk b)) else (response_Print.j0 (k + 1) false n (pairsB l) (mk b))) = response_Print.j0 (k + 1) (decide (bareI n = true ∧ b ≠ [])) n (pairsB l) (mk b) := by
    by_cases h : bareI n = true
    · rw [if_pos h]
      congr 1
      cases b <;> simp [h]
    · rw [if_neg h, decide_eq_false (fun e => h e.1)]
  rw [hj, response_Print.j0]
  by_cases h1 : bareI n = true ∧ b ≠ []
  · rw [if_pos (decide_eq_true h1), if_pos (.inr h1)]
    rfl
  rw [if_neg (by simpa using h1), if_neg (not_or.2 ⟨h0, h1⟩), mk_size]
  by_cases h2 : 100000 < b.length
  · rw [if_pos (by omega), if_pos h2]
    rfl
  rw [if_neg (by omega), if_neg h2, lensF k hl (by omega), Option.bind_some]
  by_cases h3 : 0 < (get l clenL).2
  · rw [if_pos h3, if_pos h3]
    rfl
  rw [if_neg h3, if_neg h3, slices_Clip.f, Option.bind_some, bareF, Option.bind_some]
  have hs := short_with (n := n) hl (show b.length ≤ 100000 by omega)
  have hin := reason_in h0
  have hfin : ∀ l', l' = withLen n l b → response_Print.j1 k (pairsB l') n (pairsB l) (mk b) = some (mk (if (printS (withLen n l b)).2 = 0 then (firstL n ++ [13, 10] ++ (printS (withLen n l b)).1 ++ b, (0 : Int)) else ([], (printS (withLen n l b)).2)).1, (if (printS (withLen n l b)).2 = 0 then (firstL n ++ [13, 10] ++ (printS (withLen n l b)).1 ++ b, (0 : Int)) else ([], (printS (withLen n l b)).2)).2) := by
    rintro l' rfl
    rw [pj1 _ l b k hin hs (by omega) (by omega)]
    split <;> rfl
  by_cases h4 : bareI n = true
  · rw [if_pos h4]
    exact hfin l (by unfold withLen; rw [if_pos h4])
  · rw [if_neg h4, itoF (b.length : Int) (by omega) (by omega), Option.bind_some, if_pos (by rw [pairsB_len]; have := hl.1; omega), pairs_with]
    exact hfin _ (by unfold withLen; rw [if_neg h4])
def zr (e : Int) : Int × List (L × L) × L × Int := (0, [], [], e)
def behind (n : Int) (r : L) : Int × List (L × L) × L × Int :=
  if (fields r).2.2 ≠ 0 then zr (fields r).2.2
  else if bareI n = true then (if 0 < (get (fields r).1 clenL).2 ∨ (fields r).2.1 ≠ [] then zr 190 else (n, (fields r).1, (fields r).2.1, 0))
  else if (get (fields r).1 clenL).2 = 1 ∧ (fields r).1.getLast? = some (clenL, Mn.dec (fields r).2.1.length) ∧ (fields r).2.1.length ≤ 100000 then (n, (fields r).1.dropLast, (fields r).2.1, 0) else zr 190
def parseR (s : L) : Int × List (L × L) × L × Int := match line s with
  | none => zr 200
  | some (l, r) => if statusS l = 0 then zr 200 else behind (statusS l) r
def txt4 (q : Int × List (L × L) × L × Int) : Int × List S35 × ByteArray × Int := (q.1, pairsB q.2.1, mk q.2.2.1, q.2.2.2)
theorem fields_ok_short (r : L) (h : r.length ≤ 30000) (h0 : (fields r).2.2 = 0) : Short (fields r).1 := by
  obtain ⟨_, _, h1⟩ := fields_back r h0
  have h2 := prs_len (fields r).1
  have hf := fields_len r
  exact ⟨by omega, fun p hp => by have := hf.2.1 p hp; omega⟩
theorem get_snoc (a : List (L × L)) (p : L × L) : (get (a ++ [p]) clenL).2 = (get a clenL).2 + (if low p.1 = clenL then 1 else 0) := by
  have hl : low clenL = clenL := by decide +kernel
  unfold get vals
  rw [List.filter_append, List.map_append, List.length_append]
  by_cases h : low p.1 = clenL
  · rw [if_pos h]; simp [h, hl]
  · rw [if_neg h]; simp [h, hl]
theorem get_none : (get ([] : List (L × L)) clenL).2 = 0 := rfl
theorem last_at (a : List (L × L)) (p : L × L) : rd_T35 (pairsB (a ++ [p])) (a.length : Int) = ⟨mk p.1, mk p.2⟩ := rd_pairs _ _ _ (by simp)
theorem last_idx (a : List (L × L)) (p : L × L) (h : a.length ≤ 1000000) : wrap64 (((a ++ [p]).length : Int) - 1) = (a.length : Int) := by
  rw [List.length_append, List.length_singleton, wrap_id (by omega) (by omega)]
  omega
theorem short_cut {a : List (L × L)} {p : L × L} (h : Short (a ++ [p])) : Short a := by
  refine ⟨?_, fun q hq => h.2 q (List.mem_append_left _ hq)⟩
  have := h.1
  rw [List.length_append] at this
  omega
theorem pj0 (n : Int) (r : L) (k : Nat) (hn : statusS [] = 0 → True) (hr : r.length ≤ 30000) (hk : 2000000 ≤ k) : response_Parse.j0 k (mk r) n false = some (txt4 (behind n r)) := by
  obtain ⟨k, rfl⟩ : ∃ k', k = k' + 1 := ⟨k - 1, by omega⟩
  have hf := fields_len r
  rw [response_Parse.j0, if_neg (by decide), fldF r (by omega), Option.bind_some]
  unfold fldB behind
  simp only
  by_cases h1 : (fields r).2.2 = 0
  · have hs := fields_ok_short r hr h1
    rw [if_pos h1, if_neg (show ¬ (fields r).2.2 ≠ 0 by simpa using h1), bareF, Option.bind_some, tl_mk]
    generalize (fields r).1 = h at *
    generalize (fields r).2.1 = bd at *
    by_cases h2 : bareI n = true
    · rw [if_pos h2, if_pos h2, lensF k hs (by omega), Option.bind_some]
      by_cases h3 : 0 < (get h clenL).2
      · rw [if_pos h3, if_pos (.inl h3)]
        rfl
      · rw [if_neg h3]
        by_cases h4 : bd = []
        · rw [if_pos h4, if_neg (by simp [h3, h4])]
          rfl
        · rw [if_neg h4, if_pos (.inr h4)]
          rfl
    · rw [if_neg h2, if_neg h2, lensF k hs (by omega), Option.bind_some]
      by_cases h3 : (get h clenL).2 = 1
      · rw [if_pos h3]
        rcases List.eq_nil_or_concat h with rfl | ⟨a, p, rfl⟩
        · rw [get_none] at h3
          cases h3
        · rw [List.concat_eq_append] at *
          have hal : a.length ≤ 15000 := by have := hs.1; rw [List.length_append] at this; omega
          rw [pairsB_len, last_idx a p (by omega), if_pos (by omega), if_pos (by rw [List.length_append, List.length_singleton]; omega), mk_size, itoF (bd.length : Int) (by omega) (by omega), Option.bind_some, last_at]
          simp only [tl_mk]
          rw [show ([99, 111, 110, 116, 101, 110, 116, 45, 108, 101, 110, 103, 116, 104] : List UInt8) = clenL from rfl, List.getLast?_concat]
          by_cases h5 : p.1 = clenL ∧ p.2 = Mn.dec (bd.length : Int)
          · obtain ⟨p1, p2⟩ := p
            obtain ⟨rfl, rfl⟩ := h5
            rw [if_neg (by simp)]
            by_cases h6 : 100000 < bd.length
            · rw [if_pos (by omega), if_neg (fun e => by have := e.2.2; omega)]
              rfl
            · rw [if_neg (by omega), if_pos (by rw [List.length_append, List.length_singleton]; omega), if_pos ⟨h3, rfl, by omega⟩, List.dropLast_concat, Int.toNat_natCast, pairsB_app, List.take_left' (pairsB_len a)]
              rfl
          · rw [if_pos (by
              by_cases h7 : p.1 = clenL
              · have h8 : ¬ p.2 = Mn.dec (bd.length : Int) := fun e => h5 ⟨h7, e⟩
                simp [h7, h8]
              · simp [h7]), if_neg (fun e => h5 (by have := Option.some.inj e.2.1; rw [this]; exact ⟨rfl, rfl⟩))]
            rfl
      · rw [if_neg h3, if_neg (fun e => h3 e.1)]
        rfl
  · rw [if_neg h1, if_pos h1]
    rfl
theorem parseRF (s : L) (k : Nat) (hs : s.length ≤ 30000) (hk : 3000000 ≤ k) : response_Parse.f k (mk s) = some (txt4 (parseR s)) := by
  unfold response_Parse.f parseR
  rw [show (⟨#[13, 10]⟩ : ByteArray) = mk [13, 10] from rfl, cut_l, if_pos (by omega), Option.bind_some]
  obtain ⟨k, rfl⟩ : ∃ k', k = k' + 1 := ⟨k - 1, by omega⟩
  rcases line_cut s with ⟨e1, e2⟩ | ⟨⟨l, r⟩, e1, e2⟩
  · rw [e1, e2]
    simp only
    rw [statusF s (by omega), Option.bind_some, if_neg (by decide), response_Parse.j0, if_pos rfl]
    rfl
  · have hll := congrArg List.length (line_len s _ e1)
    simp only [List.length_append, List.length_cons] at hll
    rw [e1, e2]
    simp only [if_true]
    rw [statusF l (by omega), Option.bind_some]
    by_cases h : statusS l = 0
    · rw [if_pos h, h, response_Parse.j0, if_pos (by decide)]
      rfl
    · rw [if_neg h, show (statusS l == 0) = false from by simpa using h]
      exact pj0 _ r (k + 1) (fun _ => trivial) (by omega) (by omega)
theorem parse_short (s : L) (hs : s.length ≤ 30000) : (parseR s).2.1.length ≤ 30000 := by
  unfold parseR
  cases e : line s with
  | none => simp [zr]
  | some q =>
    obtain ⟨l, r⟩ := q
    have hll := congrArg List.length (line_len s _ e)
    simp only [List.length_append, List.length_cons] at hll
    have hf := fields_len r
    simp only
    split
    · simp [zr]
    · unfold behind
      split
      · simp [zr]
      · split
        · split
          · simp [zr]
          · simp only; omega
        · split
          · simp only [List.length_dropLast]; omega
          · simp [zr]
theorem resp_same (n : Int) (l : List (L × L)) (b : ByteArray) (k : Nat) (hl : l.length ≤ 100000) (hk : 100000 < k) : broadsheetref21_Same.f k n (pairsB l) b n (pairsB l) b = some true := by
  unfold broadsheetref21_Same.f
  rw [if_pos rfl, if_pos rfl, rsameF _ k (by omega) (by omega)]
  rfl
def awS : L := [72, 84, 84, 80, 47, 49, 46, 49, 32, 52, 48, 52, 32, 78, 111, 116, 32, 70, 111, 117, 110, 100, 13, 10, 67, 111, 110, 116, 101, 110, 116, 45, 76, 101, 110, 103, 116, 104, 58, 32, 48, 13, 10, 13, 10]
theorem short_nil : Short [] := ⟨by simp, by simp⟩
theorem dec0 : Mn.dec (([] : L).length : Int) = [48] := by
  unfold Mn.dec
  rw [Lib.decDigits, dif_pos (by simp)]
  rfl
theorem aw_print : printR 404 [] [] = (awS, 0) := by
  have e : withLen 404 [] [] = [(CLenL, [48])] := by
    unfold withLen
    rw [if_neg (by decide), dec0]
    rfl
  unfold printR
  rw [e, if_neg (by decide +kernel), if_neg (by decide), if_neg (by decide +kernel)]
  have e2 : printS [(CLenL, [48])] = ([67, 111, 110, 116, 101, 110, 116, 45, 76, 101, 110, 103, 116, 104, 58, 32, 48, 13, 10, 13, 10], 0) := by decide +kernel
  rw [e2, if_pos rfl]
  decide +kernel
theorem aw_parse : parseR awS = (404, [], [], 0) := by
  have e1 : line awS = some (firstL 404, [67, 111, 110, 116, 101, 110, 116, 45, 76, 101, 110, 103, 116, 104, 58, 32, 48, 13, 10, 13, 10]) := by decide +kernel
  have e2 : fields [67, 111, 110, 116, 101, 110, 116, 45, 76, 101, 110, 103, 116, 104, 58, 32, 48, 13, 10, 13, 10] = ([(clenL, [48])], [], 0) := by decide +kernel
  unfold parseR
  rw [e1]
  simp only
  rw [status_of (show (404 : Int) ∈ sts by decide), if_neg (by decide)]
  unfold behind
  rw [e2]
  simp only
  rw [if_neg (by decide), if_neg (by decide), dec0, if_pos (by decide +kernel)]
  rfl
theorem aw_bad : printR 1 [] [] = ([], 1) := by
  unfold printR
  rw [if_pos (.inl (by decide +kernel))]
theorem awake21 (k : Nat) (hk : 4000000 ≤ k) : broadsheetlaw21_awake.f k = some true := by
  unfold broadsheetlaw21_awake.f
  have h1 := printF 404 [] [] k (by omega) (by omega) short_nil (by simp) (by omega)
  have h2 := printF 1 [] [] k (by omega) (by omega) short_nil (by simp) (by omega)
  have e0 : (pairsB [] : List S35) = [] := rfl
  rw [e0, aw_print] at h1
  rw [e0, aw_bad] at h2
  rw [show (⟨#[]⟩ : ByteArray) = mk [] from rfl, h1, h2]
  simp only [Option.bind_some]
  rw [parseRF awS k (by decide) (by omega), aw_parse]
  simp only [Option.bind_some, tl_mk, txt4]
  rfl
theorem printS_ok {l : List (L × L)} (h : (printS l).2 = 0) : l.all okP = true ∧ (prs l).length + 2 ≤ 8000 ∧ (printS l).1 = prs l ++ [13, 10] := by
  unfold printS at *
  split at h
  · rename_i h1
    split at h
    · cases h
    · rename_i h2
      rw [if_pos h1, if_neg h2]
      rw [List.length_append] at h2
      simp only [List.length_cons, List.length_nil] at h2
      exact ⟨h1, by omega, rfl⟩
  · cases h
theorem first13 : ∀ n ∈ sts, 13 ∉ firstL n := by decide +kernel
theorem count_low (l : List (L × L)) : (get (l.map lowP) clenL).2 = (get l clenL).2 := by
  unfold get vals
  simp only [List.length_map]
  congr 1
  induction l with
  | nil => rfl
  | cons p r ih =>
    rw [List.map_cons, List.filter_cons, List.filter_cons]
    have e : (low (lowP p).1 == low clenL) = (low p.1 == low clenL) := by unfold lowP; rw [low_low]
    rw [e]
    split
    · simp only [List.length_cons, ih]
    · exact ih
theorem get_nonneg (l : List (L × L)) (n : L) : 0 ≤ (get l n).2 := by unfold get; simp
theorem back_R {n : Int} {l : List (L × L)} {b : L} (h : (printR n l b).2 = 0) : n ∈ sts ∧ parseR (printR n l b).1 = (n, l.map lowP, b, 0) := by
  have hlow : low clenL = clenL := by decide +kernel
  have hlow2 : lowP (CLenL, Mn.dec (b.length : Int)) = (clenL, Mn.dec (b.length : Int)) := by
    unfold lowP
    rw [show low (CLenL, Mn.dec (b.length : Int)).1 = clenL from (show low CLenL = clenL by decide +kernel)]
  unfold printR at h ⊢
  by_cases h0 : reasonS n = [] ∨ (bareI n = true ∧ b ≠ [])
  · rw [if_pos h0] at h; cases h
  rw [if_neg h0] at h ⊢
  by_cases h1 : 100000 < b.length
  · rw [if_pos h1] at h; cases h
  rw [if_neg h1] at h ⊢
  by_cases h2 : 0 < (get l clenL).2
  · rw [if_pos h2] at h; cases h
  rw [if_neg h2] at h ⊢
  by_cases h3 : (printS (withLen n l b)).2 = 0
  · rw [if_pos h3] at h ⊢
    obtain ⟨g1, g2, g3⟩ := printS_ok h3
    have hn : n ∈ sts := reason_in (fun e => h0 (.inl e))
    have hnb := sts_bd n hn
    have h4 : (get l clenL).2 = 0 := by have := get_nonneg l clenL; omega
    refine ⟨hn, ?_⟩
    rw [g3]
    have e1 : firstL n ++ [13, 10] ++ (prs (withLen n l b) ++ [13, 10]) ++ b = firstL n ++ 13 :: 10 :: (prs (withLen n l b) ++ 13 :: 10 :: b) := by simp
    unfold parseR
    rw [e1, line13 _ _ (first13 n hn)]
    simp only
    rw [status_of hn, if_neg (by omega)]
    unfold behind
    rw [fields_prs _ b g1 g2]
    simp only
    rw [if_neg (by decide)]
    by_cases hb : bareI n = true
    · have hbn : b = [] := Classical.byContradiction fun e => h0 (.inr ⟨hb, e⟩)
      have hw : withLen n l b = l := by unfold withLen; rw [if_pos hb]
      rw [if_pos hb, hw, count_low, h4, if_neg (by rw [hbn]; simp)]
    · have hw : withLen n l b = l ++ [(CLenL, Mn.dec b.length)] := by unfold withLen; rw [if_neg hb]
      rw [if_neg hb, hw, List.map_append, List.map_cons, List.map_nil, hlow2, get_snoc, count_low, h4]
      simp only
      rw [if_pos hlow, List.getLast?_concat, if_pos ⟨by omega, rfl, by omega⟩, List.dropLast_concat]
  · rw [if_neg h3] at h
    exact absurd h h3
theorem dg_plain : ∀ a : Fin 256, (48 ≤ (UInt8.ofNat a.val).toNat ∧ (UInt8.ofNat a.val).toNat ≤ 57) → ctl (UInt8.ofNat a.val) = false ∧ bl (UInt8.ofNat a.val) = false := by decide +kernel
theorem skip_no {s : L} (h : ∀ c ∈ s, bl c = false) : skip s = s := by
  cases s with
  | nil => rfl
  | cons c r => exact List.dropWhile_cons_of_neg (by rw [h c List.mem_cons_self]; decide)
theorem fval_dec (n : Int) : fval (Mn.dec n) = true := by
  have hm : ∀ c ∈ Mn.dec n, ctl c = false ∧ bl c = false := fun c hc => by
    have := Mn.dec_mem n.toNat c hc
    obtain ⟨a, rfl⟩ := u8_fin c
    exact dg_plain a this
  unfold fval
  rw [Bool.and_eq_true]
  refine ⟨List.all_eq_true.2 (fun c hc => by rw [(hm c hc).1]; rfl), decide_eq_true ?_⟩
  unfold trim
  rw [skip_no (fun c hc => (hm c hc).2), skip_no (fun c hc => (hm c (List.mem_reverse.1 hc)).2), List.reverse_reverse]
theorem prs_len_with (l : List (L × L)) (v : L) : (prs (l ++ [(CLenL, v)])).length = (prs (l ++ [(clenL, v)])).length := by
  rw [prs_app, prs_app, List.length_append, List.length_append]
  rfl
/-- What is parsed is told, and its names are small. -/
theorem again_R {s : L} (hs : s.length ≤ 3900) (h : (parseR s).2.2.2 = 0) : (printR (parseR s).1 (parseR s).2.1 (parseR s).2.2.1).2 = 0 ∧ (parseR s).2.1.map lowP = (parseR s).2.1 ∧ Short (parseR s).2.1 ∧ (parseR s).2.2.1.length ≤ 3900 ∧ (parseR s).1 ∈ sts := by
  unfold parseR at *
  cases e : line s with
  | none => rw [e] at h; cases h
  | some q =>
    obtain ⟨l, r⟩ := q
    have hll := congrArg List.length (line_len s _ e)
    simp only [List.length_append, List.length_cons] at hll
    rw [e] at h
    simp only at h ⊢
    by_cases h0 : statusS l = 0
    · rw [if_pos h0] at h; cases h
    rw [if_neg h0] at h ⊢
    have hst : statusS l ∈ sts := by
      rcases status_cases l with ⟨n, hn, _, e2⟩ | ⟨_, e2⟩
      · rw [e2]; exact hn
      · exact absurd e2 h0
    generalize statusS l = n at *
    unfold behind at *
    by_cases h1 : (fields r).2.2 = 0
    · rw [if_neg (by simpa using h1)] at h ⊢
      have hsh := fields_ok_short r (by omega) h1
      have hf := fields_len r
      obtain ⟨g1, g2, g3⟩ := fields_back r h1
      have hbd := hf.2.2
      clear hf
      generalize (fields r).1 = hd at *
      generalize (fields r).2.1 = bd at *
      have hfin : ∀ h' : List (L × L), h'.all okP = true → (get h' clenL).2 = 0 → bd.length ≤ 100000 → ¬ (bareI n = true ∧ bd ≠ []) → (prs (withLen n h' bd)).length + 2 ≤ 8000 → (printR n h' bd).2 = 0 := by
        intro h' a1 a2 a3 a4 a5
        have hall : (withLen n h' bd).all okP = true := by
          unfold withLen
          split
          · exact a1
          · rw [List.all_append, a1, List.all_cons, List.all_nil]
            have : okP (CLenL, Mn.dec (bd.length : Int)) = true := by
              rw [okP_parts]
              simp only
              rw [fval_dec, show isTok CLenL = true from by decide +kernel]
              rfl
            rw [this]
            rfl
        have hp : printS (withLen n h' bd) = (prs (withLen n h' bd) ++ [13, 10], 0) := by
          unfold printS
          rw [if_pos hall, if_neg (by rw [List.length_append]; simp only [List.length_cons, List.length_nil]; omega)]
        unfold printR
        rw [if_neg (not_or.2 ⟨reason_ne n hst, a4⟩), if_neg (by omega), if_neg (by omega), hp, if_pos rfl]
      by_cases h2 : bareI n = true
      · rw [if_pos h2] at h ⊢
        by_cases h3 : 0 < (get hd clenL).2 ∨ bd ≠ []
        · rw [if_pos h3] at h; cases h
        · rw [if_neg h3]
          rw [not_or] at h3
          have hw : withLen n hd bd = hd := by unfold withLen; rw [if_pos h2]
          refine ⟨hfin hd g1 (by have := get_nonneg hd clenL; omega) (by omega) (fun e => h3.2 e.2) (by rw [hw]; omega), lowP_id g2, hsh, by simp only; omega, hst⟩
      · rw [if_neg h2] at h ⊢
        by_cases h3 : (get hd clenL).2 = 1 ∧ hd.getLast? = some (clenL, Mn.dec (bd.length : Int)) ∧ bd.length ≤ 100000
        · rw [if_pos h3]
          obtain ⟨c1, c2, c3⟩ := h3
          rcases List.eq_nil_or_concat hd with rfl | ⟨a, p, rfl⟩
          · cases c2
          · rw [List.concat_eq_append] at *
            rw [List.getLast?_concat] at c2
            obtain rfl := Option.some.inj c2
            rw [get_snoc, if_pos (show low clenL = clenL by decide +kernel)] at c1
            rw [List.all_append, Bool.and_eq_true] at g1
            simp only
            rw [List.dropLast_concat]
            have hw : withLen n a bd = a ++ [(CLenL, Mn.dec bd.length)] := by unfold withLen; rw [if_neg h2]
            refine ⟨hfin a g1.1 (by omega) c3 (fun e => h2 e.1) (by rw [hw, prs_len_with]; omega), lowP_id (fun p hp => g2 p (List.mem_append_left _ hp)), short_cut hsh, by omega, hst⟩
        · rw [if_neg h3] at h; cases h
    · rw [if_pos h1] at h
      exact absurd h h1
end Go.Proofs.YtaopopnlnohnpaaDoor.Sp
/- SpYAgain -/
namespace Go.Proofs.YtaopopnlnohnpaaDoor.Sp
open Go Go.RowKit Go.Proofs.YtaopopnlnohnpaaDoorW.PrintWords Go.Proofs.YtaopopnlnohnpaaDoorW.PrintLast Go.Proofs.YtaopopnlnohnpaaDoor.O Go.Proofs.YtaopopnlnohnpaaDoor.P
set_option linter.unusedVariables false
theorem parse_err (s : L) (h : (parseR s).2.2.2 ≠ 0) : (parseR s).1 = 0 ∧ (parseR s).2.1 = [] ∧ (parseR s).2.2.1 = [] := by
  unfold parseR at *
  cases e : line s with
  | none => simp [zr]
  | some q =>
    obtain ⟨l, r⟩ := q
    rw [e] at h
    simp only at h ⊢
    split
    · simp [zr]
    · rename_i h0
      rw [if_neg h0] at h
      unfold behind at *
      split
      · simp [zr]
      · rename_i h1
        rw [if_neg h1] at h
        split
        · rename_i h2
          rw [if_pos h2] at h
          split
          · simp [zr]
          · rename_i h3
            rw [if_neg h3] at h
            exact absurd rfl h
        · rename_i h2
          rw [if_neg h2] at h
          split
          · rename_i h3
            rw [if_pos h3] at h
            exact absurd rfl h
          · simp [zr]
theorem printR_len {n : Int} {l : List (L × L)} {b : L} (hb : b.length ≤ 3900) : (printR n l b).1.length ≤ 20000 := by
  have h1 := printS_len (withLen n l b)
  unfold printR
  split
  · simp
  · rename_i h0
    split
    · simp
    · split
      · simp
      · split
        · have hn := first_len (reason_in (fun e => h0 (.inl e)))
          simp only [List.length_append, List.length_cons, List.length_nil]
          omega
        · simp
theorem rsp_again_all (s : ByteArray) : ∃ k, broadsheetlaw21_ResponseAgain.f k s = some true := by
  refine ⟨5000000, ?_⟩
  rw [← mk_self s]
  generalize s.data.toList = l
  unfold broadsheetlaw21_ResponseAgain.f
  rw [awake21 _ (by omega), mk_size]
  simp only [Option.bind_some, if_true]
  by_cases h : (l.length : Int) > 3000
  · rw [if_pos h]
  have hp := parse_short l (by omega)
  rw [if_neg h, parseRF l _ (by omega) (by omega)]
  simp only [Option.bind_some, txt4]
  by_cases h0 : (parseR l).2.2.2 = 0
  · obtain ⟨g1, g2, g3, g4, g5⟩ := again_R (s := l) (by omega) h0
    have hb := sts_bd _ g5
    have hbk := back_R g1
    rw [if_pos h0, printF _ _ _ _ (by omega) (by omega) g3 (by omega) (by omega), Option.bind_some]
    simp only
    rw [parseRF _ _ (by have := printR_len (n := (parseR l).1) (l := (parseR l).2.1) g4; omega) (by omega), Option.bind_some, hbk.2, g1]
    simp only [txt4, if_true]
    rw [g2, resp_same _ _ _ _ (by omega) (by omega)]
    rfl
  · obtain ⟨e1, e2, e3⟩ := parse_err l h0
    rw [if_neg h0, e1, e2, e3, show (⟨#[]⟩ : ByteArray) = mk [] from rfl, show ([] : List S35) = pairsB [] from rfl, resp_same _ _ _ _ (by simp) (by omega)]
    rfl
end Go.Proofs.YtaopopnlnohnpaaDoor.Sp
/- CardW -/
namespace Go.Proofs.YtaopopnlnohnpaaDoor.Cg
open Go.RowKit Go.Proofs.YtaopopnlnohnpaaDoor.P Go.Proofs.YtaopopnlnohnpaaDoorW.PrintWords Go.Proofs.YtaopopnlnohnpaaDoorW.PrintLast Go.Proofs.YtaopopnlnohnpaaDoor.O
open Go.ChangeShapes Go.WideShapes Go.Deep
set_option linter.unusedVariables false
/-- The plain wrap, with a condition of one's own and the world's shape. -/
theorem wrapS {H : Type} {enc : TypeId × Value → H} {a : Assume} {C : Checked} {os : Os} {f : FuncId} {fn : Func} {s : ChangeSpec} {conds : List PathCond} {apart fresh handsOn again : Bool} {X : World → Array Value → Prop}
    (hX : ∀ (w w' : World) (args : Array Value), w.heap = w'.heap → X w args → X w' args)
    (own : ownKnob C.prog.godebug = none) (started : os.Started) (noInit : C.prog.inits.idxOf? f = none) (hfn : C.prog.funcs[f]? = some fn)
    (witness : ∃ (w : World) (tape : Tape) (i : Input), w.os = os ∧ (w.forCall tape i).Shaped C.prog ∧ i.vars = [] ∧ Input.okWide C.prog (w.forCall tape i) .any w.heap.size f i ∧
      ((s.pre enc C.prog fn conds apart (w.forCall tape i).memory i.args ∧ X (w.forCall tape i).memory i.args) ∧ sizedMet enc C.prog fn (OpenSpec.ofChange s) apart (w.forCall tape i).memory i.args) ∧ a.holds C.prog (lone (Frame.enter C.prog f i.args .normal) [] (w.forCall tape i)))
    (contract : ∀ (W : World) (base : Nat) (args : Array Value) (ds gs : List (DataW H)) (before : List MemPlace),
      (∀ (j : Nat) t v, fn.params[j]? = some t → args[j]? = some v → Value.okWide C.prog W .any base t v) →
      DataW.Whole enc C.prog fn.params.toList s.vars apart W args.toList ds gs before →
      (DataW.weightsEach C.prog (fn.params.toList ++ s.plain.varTypes C.prog) (ds ++ gs)).all (· ≤ reachBytes) = true → X W args → W.ShapedOpen C.prog →
      Calls C.prog f args W fun e W' => ∃ v, e = .returned v ∧ s.post enc C.prog fn apart fresh handsOn again W args v W') :
    ReturnsInHanded a C os f .any (fun w args => (s.pre enc C.prog fn conds apart w args ∧ X w args) ∧ sizedMet enc C.prog fn (OpenSpec.ofChange s) apart w args) (s.post enc C.prog fn apart fresh handsOn again) := by
  refine returnsInHanded_of_calls own started noInit witness ?_
  intro w tape i _ hsh _ hok hpre _
  obtain ⟨_, _, _, fn', hfn', _, _, _, _, hval⟩ := hok
  obtain rfl : fn' = fn := Option.some.inj (hfn'.symm.trans hfn)
  obtain ⟨⟨⟨ds, gs, before, hw, _⟩, hx⟩, hz⟩ := hpre
  refine (contract (w.forCall tape i) w.heap.size i.args ds gs before hval (DataW.Whole.of_heap (w' := w.forCall tape i) (by rfl) hw) (hz.weights hw) (hX _ _ _ (by rfl) hx) hsh).mono fun e W' ⟨v, he, hp⟩ => ?_
  subst he
  exact ChangeSpec.post_blind hp
theorem var_iface {W : World} {n nm : String} {d : DataW Unit} {g t : Nat} {ms : Array (String × TypeId)} (h : Lib.VarReads Tryd.prog W n (.iface nm d)) (hg : Tryd.prog.globalNamed n = some g) (ht : (Tryd.prog.globals[g]?).map (·.type) = some t) (hi : Tryd.prog.underlying t = some (.interface ms)) :
    ∃ t p, W.var? Tryd.prog n = some #[.iface t p] := by
  obtain ⟨g', t', cs, fuel, p, hg', ht', hv, hd⟩ := h
  obtain rfl := Option.some.inj (hg.symm.trans hg')
  obtain rfl := Option.some.inj (ht.symm.trans ht')
  obtain ⟨_, u, v, e, _, _⟩ := iface_of_trod hi hd
  refine ⟨u, v, ?_⟩
  rw [hv]
  cases cs
  simp only at e
  rw [e]
abbrev laidL : List (String × DataW Unit) := Rows.responseBackRow.laid
theorem glob_of {W : World} (h : laidMetH Tryd.prog laidL W) (hsh : W.ShapedOpen Tryd.prog) : Glob W := by
  rw [MakeChecks.laidMetH_plain _ _ _ (by kernel_rfl)] at h
  refine ⟨?_, ?_, ?_, ?_⟩
  · obtain ⟨g', t', cs, fuel, p, hg', ht', hv, hd⟩ := Lib.laidMet.reads h (n := "internal/strconv.uint64pow10") (d := Rows.laid_internal_strconv_uint64pow10) (.tail _ (.tail _ (.head _)))
    obtain rfl := Option.some.inj (gpow.symm.trans hg')
    obtain rfl := Option.some.inj ((show (Tryd.prog.globals[1]?).map (·.type) = some 104 by kernel_rfl).symm.trans ht')
    have hd' : DataW.trod (fun _ => ()) Tryd.prog W 0 (fun _ => true) false fuel 104 cs.toList = some (Lib.tabData .u64 (Lib.pow10Tab), p) := hd
    unfold Lib.TabIs
    rw [hv, ← Lib.cells_of_tab Tryd.underlying104 Tryd.underlying79 (by kernel_rfl) (by kernel_rfl) hd']
  · have hb : ((begin Tryd.prog (fun _ _ => 0) default).world.heap[0]?).bind Obj.row? = some (#[.int .i64 0], 3) := by kernel_rfl
    obtain ⟨m, hm⟩ := cell_of_shapedOpen_int hsh (of_decide_eq_true (by kernel_rfl)) hb rfl (by kernel_rfl) (by kernel_rfl) Tryd.underlying3
    obtain ⟨cs, hh, hs, _⟩ := hsh.1 _ _ _ (of_decide_eq_true (by kernel_rfl)) hb
    refine ⟨m, ?_⟩
    have h1 : 0 < cs.size := by rw [hs]; decide
    have hc : cs[0] = .int .i64 m := by
      have : W.cell? ⟨0, 0, none⟩ = some cs[0] := by simp [World.cell?, hh, h1]
      exact Option.some.inj (this.symm.trans hm)
    unfold World.var?
    rw [gmlen]
    simp only [Option.bind_some, hh]
    congr 1
    apply Array.ext
    · rw [hs]; rfl
    · intro i hi1 hi2
      have : i = 0 := by rw [hs] at hi1; simp at hi1; exact hi1
      subst this
      rw [hc]; rfl
  · exact var_iface (Lib.laidMet.reads h (n := "strconv.ErrSyntax") (d := Rows.laid_strconv_ErrSyntax) (.tail _ (.tail _ (.tail _ (.tail _ (.tail _ (.head _))))))) gsyn (by kernel_rfl) Tryd.underlying58
  · exact var_iface (Lib.laidMet.reads h (n := "strconv.ErrRange") (d := Rows.laid_strconv_ErrRange) (.tail _ (.tail _ (.tail _ (.tail _ (.head _)))))) grng (by kernel_rfl) Tryd.underlying58
end Go.Proofs.YtaopopnlnohnpaaDoor.Cg
