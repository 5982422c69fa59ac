/- Texts of this seat, joined: lemmas and walks that its statements' proofs use. -/
import Derived.Test.YteonhdfjfjpbjaaDoorK1
import Derived.Maps.AppendAt
/- Px12 -/
namespace Go.Proofs.YteonhdfjfjpbjaaDoor.P
open Go.Proofs.YteonhdfjfjpbjaaDoor.B
open Go.RowKit Go.Proofs.YteonhdfjfjpbjaaDoorW.PrintWords Go.Proofs.YteonhdfjfjpbjaaDoorW.PrintLast Go.Proofs.YteonhdfjfjpbjaaDoorW.PrintMore
attribute [local go_sem] str_leq str_gtr str_geq max2_int min2_int max_two min_two max_three min_three max_four min_four   -- for this text's walks alone
set_option linter.unusedVariables false
set_option linter.unusedSimpArgs false

open Go.Proofs.YteonhdfjfjpbjaaDoor.O
/-! ### field_pair: function 31 -/
def field_pair.f (k : Nat) (a0 : ByteArray) : Option (ByteArray × ByteArray × Bool) := (strings_Cut.f a0 (⟨#[58]⟩ : ByteArray)).bind fun bt147 => ((strings_Trim.f bt147.2.1 (⟨#[32, 9]⟩ : ByteArray)).bind fun t150 => ((media_Small.f bt147.1).bind fun t151 => (if bt147.2.2 = true then ((field_token.f k bt147.1).bind fun t152 => (if t152 = true then ((field_value.f t150).bind fun t153 => (some (t151, t150, t153))) else (some (t151, t150, false)))) else (some (t151, t150, false)))))
theorem field_pair.mono : ∀ a0 k, LeO (field_pair.f k a0) (field_pair.f (k + 1) a0) := by
  intro a0 k
  unfold field_pair.f
  repeat' first
      | (with_reducible exact field_token.mono _ _)
      | (with_reducible exact LeO.refl _)
      | (with_reducible exact LeO.none _)
      | (with_reducible refine LeO.ite ?_ ?_)
      | (with_reducible refine LeO.bind ?_ (fun _ => ?_))
      | exact field_token.mono _ _
      | exact LeO.none _
      | refine LeO.ite ?_ ?_
      | refine LeO.bind ?_ (fun _ => ?_)
set_option maxHeartbeats 8000000 in
set_option maxRecDepth 100000 in
theorem field_pair.calls (k : Nat) (a0 : ByteArray) (r1 : ByteArray) (r2 : ByteArray) (r3 : Bool) (w : World) (hG : Glob w) (h : field_pair.f k a0 = some (r1, r2, r3)) :
    Calls Tryd.prog 31 #[.string a0] w fun e w' => e = .returned (.tuple #[.agg #[.string r1, .string r2], .bool r3]) ∧ Below w.heap.size w w' := by
  have hu69 := Tryd.underlying69
  have HB := Aside0.mk (Below.refl w.heap.size w)
  have hGA := Aside0.mk hG
  clear hG
  have H : ((strings_Cut.f a0 (⟨#[58]⟩ : ByteArray)).bind fun bt147 => ((strings_Trim.f bt147.2.1 (⟨#[32, 9]⟩ : ByteArray)).bind fun t150 => ((media_Small.f bt147.1).bind fun t151 => (if bt147.2.2 = true then ((field_token.f k bt147.1).bind fun t152 => (if t152 = true then ((field_value.f t150).bind fun t153 => (some (t151, t150, t153))) else (some (t151, t150, false)))) else (some (t151, t150, false)))))) = some (r1, r2, r3) := h
  clear h
  replace H := Option.bind_eq_some_iff.mp H
  obtain ⟨⟨t147, t148, t149⟩, A20, H⟩ := H
  replace H : ((strings_Trim.f t148 (⟨#[32, 9]⟩ : ByteArray)).bind fun t150 => ((media_Small.f t147).bind fun t151 => (if t149 = true then ((field_token.f k t147).bind fun t152 => (if t152 = true then ((field_value.f t150).bind fun t153 => (some (t151, t150, t153))) else (some (t151, t150, false)))) else (some (t151, t150, false))))) = some (r1, r2, r3) := H
  have A2 := Aside0.mk A20
  clear A20
  replace H := Option.bind_eq_some_iff.mp H
  obtain ⟨t150, A30, H⟩ := H
  replace H : ((media_Small.f t147).bind fun t151 => (if t149 = true then ((field_token.f k t147).bind fun t152 => (if t152 = true then ((field_value.f t150).bind fun t153 => (some (t151, t150, t153))) else (some (t151, t150, false)))) else (some (t151, t150, false)))) = some (r1, r2, r3) := H
  have A3 := Aside0.mk A30
  clear A30
  replace H := Option.bind_eq_some_iff.mp H
  obtain ⟨t151, A40, H⟩ := H
  replace H : (if t149 = true then ((field_token.f k t147).bind fun t152 => (if t152 = true then ((field_value.f t150).bind fun t153 => (some (t151, t150, t153))) else (some (t151, t150, false)))) else (some (t151, t150, false))) = some (r1, r2, r3) := H
  have A4 := Aside0.mk A40
  clear A40
  by_cases c5 : t149 = true
  · subst c5
    have H1 : ((field_token.f k t147).bind fun t152 => (if t152 = true then ((field_value.f t150).bind fun t153 => (some (t151, t150, t153))) else (some (t151, t150, false)))) = some (r1, r2, r3) := by rw [if_pos rfl] at H; exact H
    clear H
    have H := H1
    clear H1
    replace H := Option.bind_eq_some_iff.mp H
    obtain ⟨t152, A60, H⟩ := H
    replace H : (if t152 = true then ((field_value.f t150).bind fun t153 => (some (t151, t150, t153))) else (some (t151, t150, false))) = some (r1, r2, r3) := H
    have A6 := Aside0.mk A60
    clear A60
    by_cases c7 : t152 = true
    · subst c7
      have H1 : ((field_value.f t150).bind fun t153 => (some (t151, t150, t153))) = some (r1, r2, r3) := by rw [if_pos rfl] at H; exact H
      clear H
      have H := H1
      clear H1
      replace H := Option.bind_eq_some_iff.mp H
      obtain ⟨t153, A80, H⟩ := H
      replace H : (some (t151, t150, t153)) = some (r1, r2, r3) := H
      have A8 := Aside0.mk A80
      clear A80
      simp only [Option.some.injEq, Prod.mk.injEq] at H
      obtain ⟨rfl, rfl, rfl⟩ := H
      go_enter Tryd.func31, Tryd.ntmps31
      go_wp2_with (first | ((with_reducible refine gate_dst (N := 2) rfl ?_); refine box_event ?hg (N := 2) ?hd (cs := #[.string (⟨#[]⟩ : ByteArray), .string (⟨#[]⟩ : ByteArray)]) (t := 69) ?hr ?_; (case hd => rfl); (case hg => rfl); (case hr => first | (go_simp; done) | (go_simp; rfl)); intro gb146 hg w9 hbox hb; have n0_ := Aside0.mk (below_step (by repeat (first | (with_reducible first | exact HB.out | apply below_alloc | apply pw_below_drewN | apply below_drew1) | exact HB.out)) hb); have n1_ := Aside0.mk (hbox); have n2_ := Aside0.mk ((by rw [hg]; exact (below_size (by repeat (first | (with_reducible first | exact HB.out | apply below_alloc | apply pw_below_drewN | apply below_drew1) | exact HB.out))) : w.heap.size ≤ gb146)); have n3_ := Aside0.mk ((by rw [hg]; exact (below_size (by repeat (first | (with_reducible first | exact HB.out | apply below_alloc | apply pw_below_drewN | apply below_drew1) | exact HB.out))) : w.heap.size ≤ gb146)); clear HB; have HB := n0_; have BK146 := n1_; have GW146 := n2_; have GE146 := n3_; clear n0_ n1_ n2_ n3_; clear hb hbox hg) | ((with_reducible refine gate_callee (f := 11) rfl ?_); refine goesL_ (some 9) rfl rfl Tryd.func11 (by kernel_rfl) rfl #[.string a0, .string (⟨#[58]⟩ : ByteArray)] rfl (by (try simp only [List.map_toArray, List.map_cons, List.map_nil]); first | done | rfl | (simp only [List.length_drop, List.length_take]; rfl)) ?_; (with_reducible refine (strings_Cut.calls a0 (⟨#[58]⟩ : ByteArray) t147 t148 true _ ?side1 A2.out).mono ?_); (case side1 => exact Glob.below hGA.out (by repeat (first | (with_reducible first | exact HB.out | apply below_alloc | apply pw_below_drewN | apply below_drew1 | refine below_set ?_ GE146.out) | exact HB.out))); rintro e w10 ⟨rfl, hb⟩; refine ⟨_, rfl, ?_⟩; have n0_ := Aside0.mk (blk_below (g := gb146) (o := .cells #[.string (⟨#[]⟩ : ByteArray), .string (⟨#[]⟩ : ByteArray)] 69 (0, 0)) (by (with_reducible repeat (first | refine blk_drewN ?_ _ | refine blk_drew ?_ | refine blk_alloc ?_ _)); exact BK146.out) hb); have n1_ := Aside0.mk (below_step (by repeat (first | (with_reducible first | exact HB.out | apply below_alloc | apply pw_below_drewN | apply below_drew1 | refine below_set ?_ GE146.out) | exact HB.out)) hb); clear BK146; clear HB; have BK146 := n0_; have HB := n1_; clear n0_ n1_; (try clear hb); (try clear hb2); (try clear hk); (try clear hi)) | ((with_reducible refine gate_callee (f := 56) rfl ?_); refine goesL_ (some 14) rfl rfl Tryd.func56 (by kernel_rfl) rfl #[.string t148, .string (⟨#[32, 9]⟩ : ByteArray)] rfl (by (try simp only [List.map_toArray, List.map_cons, List.map_nil]); first | done | rfl | (simp only [List.length_drop, List.length_take]; rfl)) ?_; (with_reducible refine (strings_Trim.calls t148 (⟨#[32, 9]⟩ : ByteArray) t150 _ A3.out).mono ?_); rintro e w11 ⟨rfl, hb⟩; refine ⟨_, rfl, ?_⟩; have n0_ := Aside0.mk (blk_below (g := gb146) (o := .cells #[.string (⟨#[]⟩ : ByteArray), .string (⟨#[]⟩ : ByteArray)] 69 (0, 0)) (by (with_reducible repeat (first | refine blk_drewN ?_ _ | refine blk_drew ?_ | refine blk_alloc ?_ _)); exact BK146.out) hb); have n1_ := Aside0.mk (below_step (by repeat (first | (with_reducible first | exact HB.out | apply below_alloc | apply pw_below_drewN | apply below_drew1 | refine below_set ?_ GE146.out) | exact HB.out)) hb); clear BK146; clear HB; have BK146 := n0_; have HB := n1_; clear n0_ n1_; (try clear hb); (try clear hb2); (try clear hk); (try clear hi)) | ((with_reducible refine gate_callee (f := 50) rfl ?_); refine goesL_ (some 16) rfl rfl Tryd.func50 (by kernel_rfl) rfl #[.string t147] rfl (by (try simp only [List.map_toArray, List.map_cons, List.map_nil]); first | done | rfl | (simp only [List.length_drop, List.length_take]; rfl)) ?_; (with_reducible refine (media_Small.calls t147 t151 _ A4.out).mono ?_); rintro e w12 ⟨rfl, hb⟩; refine ⟨_, rfl, ?_⟩; have n0_ := Aside0.mk (blk_below (g := gb146) (o := .cells #[.string (⟨#[]⟩ : ByteArray), .string (⟨#[]⟩ : ByteArray)] 69 (0, 0)) (by (with_reducible repeat (first | refine blk_drewN ?_ _ | refine blk_drew ?_ | refine blk_alloc ?_ _)); exact BK146.out) hb); have n1_ := Aside0.mk (below_step (by repeat (first | (with_reducible first | exact HB.out | apply below_alloc | apply pw_below_drewN | apply below_drew1 | refine below_set ?_ GE146.out) | exact HB.out)) hb); clear BK146; clear HB; have BK146 := n0_; have HB := n1_; clear n0_ n1_; (try clear hb); (try clear hb2); (try clear hk); (try clear hi)) | (go_at_call 57; (with_reducible refine (field_token.calls k t147 true _ A6.out).mono ?_); rintro e w13 ⟨rfl, hb⟩; have n0_ := Aside0.mk (blk_below (g := gb146) (o := .cells #[.string (⟨#[]⟩ : ByteArray), .string (⟨#[]⟩ : ByteArray)] 69 (0, 0)) (by (with_reducible repeat (first | refine blk_drewN ?_ _ | refine blk_drew ?_ | refine blk_alloc ?_ _)); exact BK146.out) hb); have n1_ := Aside0.mk (below_step (by repeat (first | (with_reducible first | exact HB.out | apply below_alloc | apply pw_below_drewN | apply below_drew1 | refine below_set ?_ GE146.out) | exact HB.out)) hb); clear BK146; clear HB; have BK146 := n0_; have HB := n1_; clear n0_ n1_; (try clear hb); (try clear hb2); (try clear hk); (try clear hi)) | (go_at_call 58; (with_reducible refine (field_value.calls t150 t153 _ A8.out).mono ?_); rintro e w14 ⟨rfl, hb⟩; have n0_ := Aside0.mk (blk_below (g := gb146) (o := .cells #[.string (⟨#[]⟩ : ByteArray), .string (⟨#[]⟩ : ByteArray)] 69 (0, 0)) (by (with_reducible repeat (first | refine blk_drewN ?_ _ | refine blk_drew ?_ | refine blk_alloc ?_ _)); exact BK146.out) hb); have n1_ := Aside0.mk (below_step (by repeat (first | (with_reducible first | exact HB.out | apply below_alloc | apply pw_below_drewN | apply below_drew1 | refine below_set ?_ GE146.out) | exact HB.out)) hb); clear BK146; clear HB; have BK146 := n0_; have HB := n1_; clear n0_ n1_; (try clear hb); (try clear hb2); (try clear hk); (try clear hi); have hcz15_0 : w14.cell? ⟨gb146, 0, none⟩ = some (.string (⟨#[]⟩ : ByteArray)) := (blk_cell BK146.out 0).trans rfl; have hcz15_1 : w14.cell? ⟨gb146, 1, none⟩ = some (.string (⟨#[]⟩ : ByteArray)) := (blk_cell BK146.out 1).trans rfl; have hfz15_0 := blk_frozen BK146.out 0; have hfz15_1 := blk_frozen BK146.out 1))
      refine bodyPost_ret (results_ct rfl _ _ gb146 69 #[.string t151, .string t150] (0, 0) _ rfl (by (with_reducible repeat (first | refine blk_drewN ?_ _ | refine blk_drew ?_ | refine blk_alloc ?_ _)); refine blk_put (cs := #[.string t151, .string (⟨#[]⟩ : ByteArray)]) ?_ 1 _ rfl; (with_reducible repeat (first | refine blk_drewN ?_ _ | refine blk_drew ?_ | refine blk_alloc ?_ _)); refine blk_put (cs := #[.string (⟨#[]⟩ : ByteArray), .string (⟨#[]⟩ : ByteArray)]) ?_ 0 _ rfl; (with_reducible repeat (first | refine blk_drewN ?_ _ | refine blk_drew ?_ | refine blk_alloc ?_ _)); exact BK146.out) Tryd.underlying69 rfl (by kernel_rfl)) rfl ?_
      exact ⟨by first | rfl | (simp [errW_none, errW_some, bne_nil_] <;> rfl) | (simp [*, errW_none, errW_some] <;> rfl), by repeat (first | (with_reducible first | exact HB.out | apply below_alloc | apply pw_below_drewN | apply below_drew1 | refine below_set ?_ GE146.out) | exact HB.out)⟩
    · replace c7 := Bool.eq_false_iff.mpr c7
      subst c7
      have H1 : (some (t151, t150, false)) = some (r1, r2, r3) := by rw [if_neg (show ¬ (false = true) by decide)] at H; exact H
      clear H
      have H := H1
      clear H1
      simp only [Option.some.injEq, Prod.mk.injEq] at H
      obtain ⟨rfl, rfl, rfl⟩ := H
      go_enter Tryd.func31, Tryd.ntmps31
      go_wp2_with (first | ((with_reducible refine gate_dst (N := 2) rfl ?_); refine box_event ?hg (N := 2) ?hd (cs := #[.string (⟨#[]⟩ : ByteArray), .string (⟨#[]⟩ : ByteArray)]) (t := 69) ?hr ?_; (case hd => rfl); (case hg => rfl); (case hr => first | (go_simp; done) | (go_simp; rfl)); intro gb146 hg w16 hbox hb; have n0_ := Aside0.mk (below_step (by repeat (first | (with_reducible first | exact HB.out | apply below_alloc | apply pw_below_drewN | apply below_drew1) | exact HB.out)) hb); have n1_ := Aside0.mk (hbox); have n2_ := Aside0.mk ((by rw [hg]; exact (below_size (by repeat (first | (with_reducible first | exact HB.out | apply below_alloc | apply pw_below_drewN | apply below_drew1) | exact HB.out))) : w.heap.size ≤ gb146)); have n3_ := Aside0.mk ((by rw [hg]; exact (below_size (by repeat (first | (with_reducible first | exact HB.out | apply below_alloc | apply pw_below_drewN | apply below_drew1) | exact HB.out))) : w.heap.size ≤ gb146)); clear HB; have HB := n0_; have BK146 := n1_; have GW146 := n2_; have GE146 := n3_; clear n0_ n1_ n2_ n3_; clear hb hbox hg) | ((with_reducible refine gate_callee (f := 11) rfl ?_); refine goesL_ (some 9) rfl rfl Tryd.func11 (by kernel_rfl) rfl #[.string a0, .string (⟨#[58]⟩ : ByteArray)] rfl (by (try simp only [List.map_toArray, List.map_cons, List.map_nil]); first | done | rfl | (simp only [List.length_drop, List.length_take]; rfl)) ?_; (with_reducible refine (strings_Cut.calls a0 (⟨#[58]⟩ : ByteArray) t147 t148 true _ ?side1 A2.out).mono ?_); (case side1 => exact Glob.below hGA.out (by repeat (first | (with_reducible first | exact HB.out | apply below_alloc | apply pw_below_drewN | apply below_drew1 | refine below_set ?_ GE146.out) | exact HB.out))); rintro e w17 ⟨rfl, hb⟩; refine ⟨_, rfl, ?_⟩; have n0_ := Aside0.mk (blk_below (g := gb146) (o := .cells #[.string (⟨#[]⟩ : ByteArray), .string (⟨#[]⟩ : ByteArray)] 69 (0, 0)) (by (with_reducible repeat (first | refine blk_drewN ?_ _ | refine blk_drew ?_ | refine blk_alloc ?_ _)); exact BK146.out) hb); have n1_ := Aside0.mk (below_step (by repeat (first | (with_reducible first | exact HB.out | apply below_alloc | apply pw_below_drewN | apply below_drew1 | refine below_set ?_ GE146.out) | exact HB.out)) hb); clear BK146; clear HB; have BK146 := n0_; have HB := n1_; clear n0_ n1_; (try clear hb); (try clear hb2); (try clear hk); (try clear hi)) | ((with_reducible refine gate_callee (f := 56) rfl ?_); refine goesL_ (some 14) rfl rfl Tryd.func56 (by kernel_rfl) rfl #[.string t148, .string (⟨#[32, 9]⟩ : ByteArray)] rfl (by (try simp only [List.map_toArray, List.map_cons, List.map_nil]); first | done | rfl | (simp only [List.length_drop, List.length_take]; rfl)) ?_; (with_reducible refine (strings_Trim.calls t148 (⟨#[32, 9]⟩ : ByteArray) t150 _ A3.out).mono ?_); rintro e w18 ⟨rfl, hb⟩; refine ⟨_, rfl, ?_⟩; have n0_ := Aside0.mk (blk_below (g := gb146) (o := .cells #[.string (⟨#[]⟩ : ByteArray), .string (⟨#[]⟩ : ByteArray)] 69 (0, 0)) (by (with_reducible repeat (first | refine blk_drewN ?_ _ | refine blk_drew ?_ | refine blk_alloc ?_ _)); exact BK146.out) hb); have n1_ := Aside0.mk (below_step (by repeat (first | (with_reducible first | exact HB.out | apply below_alloc | apply pw_below_drewN | apply below_drew1 | refine below_set ?_ GE146.out) | exact HB.out)) hb); clear BK146; clear HB; have BK146 := n0_; have HB := n1_; clear n0_ n1_; (try clear hb); (try clear hb2); (try clear hk); (try clear hi)) | ((with_reducible refine gate_callee (f := 50) rfl ?_); refine goesL_ (some 16) rfl rfl Tryd.func50 (by kernel_rfl) rfl #[.string t147] rfl (by (try simp only [List.map_toArray, List.map_cons, List.map_nil]); first | done | rfl | (simp only [List.length_drop, List.length_take]; rfl)) ?_; (with_reducible refine (media_Small.calls t147 t151 _ A4.out).mono ?_); rintro e w19 ⟨rfl, hb⟩; refine ⟨_, rfl, ?_⟩; have n0_ := Aside0.mk (blk_below (g := gb146) (o := .cells #[.string (⟨#[]⟩ : ByteArray), .string (⟨#[]⟩ : ByteArray)] 69 (0, 0)) (by (with_reducible repeat (first | refine blk_drewN ?_ _ | refine blk_drew ?_ | refine blk_alloc ?_ _)); exact BK146.out) hb); have n1_ := Aside0.mk (below_step (by repeat (first | (with_reducible first | exact HB.out | apply below_alloc | apply pw_below_drewN | apply below_drew1 | refine below_set ?_ GE146.out) | exact HB.out)) hb); clear BK146; clear HB; have BK146 := n0_; have HB := n1_; clear n0_ n1_; (try clear hb); (try clear hb2); (try clear hk); (try clear hi)) | (go_at_call 57; (with_reducible refine (field_token.calls k t147 false _ A6.out).mono ?_); rintro e w20 ⟨rfl, hb⟩; have n0_ := Aside0.mk (blk_below (g := gb146) (o := .cells #[.string (⟨#[]⟩ : ByteArray), .string (⟨#[]⟩ : ByteArray)] 69 (0, 0)) (by (with_reducible repeat (first | refine blk_drewN ?_ _ | refine blk_drew ?_ | refine blk_alloc ?_ _)); exact BK146.out) hb); have n1_ := Aside0.mk (below_step (by repeat (first | (with_reducible first | exact HB.out | apply below_alloc | apply pw_below_drewN | apply below_drew1 | refine below_set ?_ GE146.out) | exact HB.out)) hb); clear BK146; clear HB; have BK146 := n0_; have HB := n1_; clear n0_ n1_; (try clear hb); (try clear hb2); (try clear hk); (try clear hi); have hcz21_0 : w20.cell? ⟨gb146, 0, none⟩ = some (.string (⟨#[]⟩ : ByteArray)) := (blk_cell BK146.out 0).trans rfl; have hcz21_1 : w20.cell? ⟨gb146, 1, none⟩ = some (.string (⟨#[]⟩ : ByteArray)) := (blk_cell BK146.out 1).trans rfl; have hfz21_0 := blk_frozen BK146.out 0; have hfz21_1 := blk_frozen BK146.out 1))
      refine bodyPost_ret (results_ct rfl _ _ gb146 69 #[.string t151, .string t150] (0, 0) _ rfl (by (with_reducible repeat (first | refine blk_drewN ?_ _ | refine blk_drew ?_ | refine blk_alloc ?_ _)); refine blk_put (cs := #[.string t151, .string (⟨#[]⟩ : ByteArray)]) ?_ 1 _ rfl; (with_reducible repeat (first | refine blk_drewN ?_ _ | refine blk_drew ?_ | refine blk_alloc ?_ _)); refine blk_put (cs := #[.string (⟨#[]⟩ : ByteArray), .string (⟨#[]⟩ : ByteArray)]) ?_ 0 _ rfl; (with_reducible repeat (first | refine blk_drewN ?_ _ | refine blk_drew ?_ | refine blk_alloc ?_ _)); exact BK146.out) Tryd.underlying69 rfl (by kernel_rfl)) rfl ?_
      exact ⟨by first | rfl | (simp [errW_none, errW_some, bne_nil_] <;> rfl) | (simp [*, errW_none, errW_some] <;> rfl), by repeat (first | (with_reducible first | exact HB.out | apply below_alloc | apply pw_below_drewN | apply below_drew1 | refine below_set ?_ GE146.out) | exact HB.out)⟩
  · replace c5 := Bool.eq_false_iff.mpr c5
    subst c5
    have H1 : (some (t151, t150, false)) = some (r1, r2, r3) := by rw [if_neg (show ¬ (false = true) by decide)] at H; exact H
    clear H
    have H := H1
    clear H1
    simp only [Option.some.injEq, Prod.mk.injEq] at H
    obtain ⟨rfl, rfl, rfl⟩ := H
    go_enter Tryd.func31, Tryd.ntmps31
    go_wp2_with (first | ((with_reducible refine gate_dst (N := 2) rfl ?_); refine box_event ?hg (N := 2) ?hd (cs := #[.string (⟨#[]⟩ : ByteArray), .string (⟨#[]⟩ : ByteArray)]) (t := 69) ?hr ?_; (case hd => rfl); (case hg => rfl); (case hr => first | (go_simp; done) | (go_simp; rfl)); intro gb146 hg w22 hbox hb; have n0_ := Aside0.mk (below_step (by repeat (first | (with_reducible first | exact HB.out | apply below_alloc | apply pw_below_drewN | apply below_drew1) | exact HB.out)) hb); have n1_ := Aside0.mk (hbox); have n2_ := Aside0.mk ((by rw [hg]; exact (below_size (by repeat (first | (with_reducible first | exact HB.out | apply below_alloc | apply pw_below_drewN | apply below_drew1) | exact HB.out))) : w.heap.size ≤ gb146)); have n3_ := Aside0.mk ((by rw [hg]; exact (below_size (by repeat (first | (with_reducible first | exact HB.out | apply below_alloc | apply pw_below_drewN | apply below_drew1) | exact HB.out))) : w.heap.size ≤ gb146)); clear HB; have HB := n0_; have BK146 := n1_; have GW146 := n2_; have GE146 := n3_; clear n0_ n1_ n2_ n3_; clear hb hbox hg) | ((with_reducible refine gate_callee (f := 11) rfl ?_); refine goesL_ (some 9) rfl rfl Tryd.func11 (by kernel_rfl) rfl #[.string a0, .string (⟨#[58]⟩ : ByteArray)] rfl (by (try simp only [List.map_toArray, List.map_cons, List.map_nil]); first | done | rfl | (simp only [List.length_drop, List.length_take]; rfl)) ?_; (with_reducible refine (strings_Cut.calls a0 (⟨#[58]⟩ : ByteArray) t147 t148 false _ ?side1 A2.out).mono ?_); (case side1 => exact Glob.below hGA.out (by repeat (first | (with_reducible first | exact HB.out | apply below_alloc | apply pw_below_drewN | apply below_drew1 | refine below_set ?_ GE146.out) | exact HB.out))); rintro e w23 ⟨rfl, hb⟩; refine ⟨_, rfl, ?_⟩; have n0_ := Aside0.mk (blk_below (g := gb146) (o := .cells #[.string (⟨#[]⟩ : ByteArray), .string (⟨#[]⟩ : ByteArray)] 69 (0, 0)) (by (with_reducible repeat (first | refine blk_drewN ?_ _ | refine blk_drew ?_ | refine blk_alloc ?_ _)); exact BK146.out) hb); have n1_ := Aside0.mk (below_step (by repeat (first | (with_reducible first | exact HB.out | apply below_alloc | apply pw_below_drewN | apply below_drew1 | refine below_set ?_ GE146.out) | exact HB.out)) hb); clear BK146; clear HB; have BK146 := n0_; have HB := n1_; clear n0_ n1_; (try clear hb); (try clear hb2); (try clear hk); (try clear hi)) | ((with_reducible refine gate_callee (f := 56) rfl ?_); refine goesL_ (some 14) rfl rfl Tryd.func56 (by kernel_rfl) rfl #[.string t148, .string (⟨#[32, 9]⟩ : ByteArray)] rfl (by (try simp only [List.map_toArray, List.map_cons, List.map_nil]); first | done | rfl | (simp only [List.length_drop, List.length_take]; rfl)) ?_; (with_reducible refine (strings_Trim.calls t148 (⟨#[32, 9]⟩ : ByteArray) t150 _ A3.out).mono ?_); rintro e w24 ⟨rfl, hb⟩; refine ⟨_, rfl, ?_⟩; have n0_ := Aside0.mk (blk_below (g := gb146) (o := .cells #[.string (⟨#[]⟩ : ByteArray), .string (⟨#[]⟩ : ByteArray)] 69 (0, 0)) (by (with_reducible repeat (first | refine blk_drewN ?_ _ | refine blk_drew ?_ | refine blk_alloc ?_ _)); exact BK146.out) hb); have n1_ := Aside0.mk (below_step (by repeat (first | (with_reducible first | exact HB.out | apply below_alloc | apply pw_below_drewN | apply below_drew1 | refine below_set ?_ GE146.out) | exact HB.out)) hb); clear BK146; clear HB; have BK146 := n0_; have HB := n1_; clear n0_ n1_; (try clear hb); (try clear hb2); (try clear hk); (try clear hi)) | ((with_reducible refine gate_callee (f := 50) rfl ?_); refine goesL_ (some 16) rfl rfl Tryd.func50 (by kernel_rfl) rfl #[.string t147] rfl (by (try simp only [List.map_toArray, List.map_cons, List.map_nil]); first | done | rfl | (simp only [List.length_drop, List.length_take]; rfl)) ?_; (with_reducible refine (media_Small.calls t147 t151 _ A4.out).mono ?_); rintro e w25 ⟨rfl, hb⟩; refine ⟨_, rfl, ?_⟩; have n0_ := Aside0.mk (blk_below (g := gb146) (o := .cells #[.string (⟨#[]⟩ : ByteArray), .string (⟨#[]⟩ : ByteArray)] 69 (0, 0)) (by (with_reducible repeat (first | refine blk_drewN ?_ _ | refine blk_drew ?_ | refine blk_alloc ?_ _)); exact BK146.out) hb); have n1_ := Aside0.mk (below_step (by repeat (first | (with_reducible first | exact HB.out | apply below_alloc | apply pw_below_drewN | apply below_drew1 | refine below_set ?_ GE146.out) | exact HB.out)) hb); clear BK146; clear HB; have BK146 := n0_; have HB := n1_; clear n0_ n1_; (try clear hb); (try clear hb2); (try clear hk); (try clear hi); have hcz26_0 : w25.cell? ⟨gb146, 0, none⟩ = some (.string (⟨#[]⟩ : ByteArray)) := (blk_cell BK146.out 0).trans rfl; have hcz26_1 : w25.cell? ⟨gb146, 1, none⟩ = some (.string (⟨#[]⟩ : ByteArray)) := (blk_cell BK146.out 1).trans rfl; have hfz26_0 := blk_frozen BK146.out 0; have hfz26_1 := blk_frozen BK146.out 1))
    refine bodyPost_ret (results_ct rfl _ _ gb146 69 #[.string t151, .string t150] (0, 0) _ rfl (by (with_reducible repeat (first | refine blk_drewN ?_ _ | refine blk_drew ?_ | refine blk_alloc ?_ _)); refine blk_put (cs := #[.string t151, .string (⟨#[]⟩ : ByteArray)]) ?_ 1 _ rfl; (with_reducible repeat (first | refine blk_drewN ?_ _ | refine blk_drew ?_ | refine blk_alloc ?_ _)); refine blk_put (cs := #[.string (⟨#[]⟩ : ByteArray), .string (⟨#[]⟩ : ByteArray)]) ?_ 0 _ rfl; (with_reducible repeat (first | refine blk_drewN ?_ _ | refine blk_drew ?_ | refine blk_alloc ?_ _)); exact BK146.out) Tryd.underlying69 rfl (by kernel_rfl)) rfl ?_
    exact ⟨by first | rfl | (simp [errW_none, errW_some, bne_nil_] <;> rfl) | (simp [*, errW_none, errW_some] <;> rfl), by repeat (first | (with_reducible first | exact HB.out | apply below_alloc | apply pw_below_drewN | apply below_drew1 | refine below_set ?_ GE146.out) | exact HB.out)⟩

end Go.Proofs.YteonhdfjfjpbjaaDoor.P

/- By -/
namespace Go.Proofs.YteonhdfjfjpbjaaDoor.Sp
open Go Go.RowKit Go.Proofs.YteonhdfjfjpbjaaDoorW.PrintWords Go.Proofs.YteonhdfjfjpbjaaDoorW.PrintLast Go.Proofs.YteonhdfjfjpbjaaDoor.O
set_option linter.unusedVariables false
set_option linter.unusedSimpArgs false

def mk (l : L) : ByteArray := ⟨l.toArray⟩
theorem mk_data (l : L) : (mk l).data.toList = l := by simp [mk]
theorem mk_self (s : ByteArray) : mk s.data.toList = s := by cases s; simp [mk]
theorem ba_ext {a b : ByteArray} (h : a.data.toList = b.data.toList) : a = b := by rw [← mk_self a, ← mk_self b, h]
theorem mk_size (l : L) : (mk l).size = l.length := by rw [Lib.size_eq, mk_data]
theorem mk_append (a b : L) : mk a ++ mk b = mk (a ++ b) := ba_ext (by simp [mk_data])
theorem mk_inj {a b : L} (h : mk a = mk b) : a = b := by rw [← mk_data a, ← mk_data b, h]
theorem ext_sub (s : ByteArray) (a b : Nat) : s.extract a b = mk ((s.data.toList.drop a).take (b - a)) := ba_ext (by rw [Lib.extract_data, mk_data])
theorem ext_mk (l : L) (a b : Nat) : (mk l).extract a b = mk ((l.drop a).take (b - a)) := by rw [ext_sub, mk_data]
theorem ext_to (l : L) (a : Nat) : (mk l).extract 0 a = mk (l.take a) := by rw [ext_mk]; rfl
theorem ext_from (l : L) (a : Nat) : (mk l).extract a (mk l).size = mk (l.drop a) := by rw [ext_mk, mk_size, List.take_of_length_le (by rw [List.length_drop]; omega)]
theorem tl (s : ByteArray) : s.toList = s.data.toList := Lib.toList_data s
theorem tl_mk (l : L) : (mk l).toList = l := by rw [tl, mk_data]
theorem wrap_id {x : Int} (h1 : -9223372036854775808 ≤ x) (h2 : x ≤ 9223372036854775807) : wrap64 x = x := by unfold wrap64; omega
/-- The byte at a place, the rest of the text beside it. -/
theorem drop_bt (s : ByteArray) (i : Nat) (h : i < s.size) : ∃ b : UInt8, s.data.toList.drop i = b :: s.data.toList.drop (i + 1) ∧ bt s i = b.toNat := by
  have h' : i < s.data.toList.length := by rw [← Lib.size_eq]; exact h
  refine ⟨s.data.toList[i], List.drop_eq_getElem_cons h', ?_⟩
  rw [← bt_getD s i h, List.getD_eq_getElem?_getD, List.getElem?_eq_getElem h']
  rfl
theorem mk_bt (l : L) (i : Nat) (h : i < l.length) : ∃ b : UInt8, l.drop i = b :: l.drop (i + 1) ∧ bt (mk l) i = b.toNat := by
  have := drop_bt (mk l) i (by rw [mk_size]; exact h)
  rwa [mk_data] at this
theorem bt_head (c : UInt8) (r : L) : bt (mk (c :: r)) 0 = c.toNat := by
  obtain ⟨b, e1, e2⟩ := mk_bt (c :: r) 0 (by simp)
  simp at e1
  rw [← e1] at e2
  exact e2
theorem u8_eq (c : UInt8) (n : Nat) (h : n < 256) : c.toNat = n ↔ c = UInt8.ofNat n := by
  constructor
  · intro e
    apply UInt8.toNat_inj.1
    rw [e, UInt8.toNat_ofNat']
    omega
  · intro e
    rw [e, UInt8.toNat_ofNat']
    omega
theorem u8i (c : UInt8) (n : Nat) (h : n < 256) : ((c.toNat : Int) = (n : Int)) ↔ c = UInt8.ofNat n := by
  rw [← u8_eq c n h]
  omega
def pairsB (l : List (L × L)) : List P.S69 := l.map fun p => ⟨mk p.1, mk p.2⟩
theorem pairsB_app (a b : List (L × L)) : pairsB (a ++ b) = pairsB a ++ pairsB b := by simp [pairsB]
theorem pairsB_len (a : List (L × L)) : (pairsB a).length = a.length := by simp [pairsB]
theorem pairsB_nil : pairsB [] = [] := rfl
end Go.Proofs.YteonhdfjfjpbjaaDoor.Sp

/- SpC -/
namespace Go.Proofs.YteonhdfjfjpbjaaDoor.Sp
open Go Go.RowKit Go.Proofs.YteonhdfjfjpbjaaDoorW.PrintWords Go.Proofs.YteonhdfjfjpbjaaDoorW.PrintLast Go.Proofs.YteonhdfjfjpbjaaDoor.O Go.Proofs.YteonhdfjfjpbjaaDoor.P
set_option linter.unusedVariables false
set_option linter.unusedSimpArgs false

/-! ### Tokens -/
theorem sig_all : ∀ a : Fin 256, (decide (Lib.indexByte signs (UInt8.ofNat a.val) ≥ 0)) = signs.contains (UInt8.ofNat a.val) := by decide +kernel
theorem u8_fin (c : UInt8) : ∃ a : Fin 256, c = UInt8.ofNat a.val := ⟨⟨c.toNat, c.toNat_lt⟩, by simp⟩
theorem sig_index (c : UInt8) : Lib.indexByte signs c ≥ 0 ↔ tokB c = true := by
  obtain ⟨a, rfl⟩ := u8_fin c
  have := sig_all a
  unfold tokB
  rw [← this]
  simp
theorem sigF (c : UInt8) : strings_IndexByte.f (mk signs) (c.toNat : Int) = some (Lib.indexByte signs c) := by
  unfold strings_IndexByte.f
  rw [mk_data]
  congr 2
  simp
theorem take_tw (p : UInt8 → Bool) (s : L) : s.take (s.takeWhile p).length = s.takeWhile p := by
  have h : s.takeWhile p ++ s.dropWhile p = s := List.takeWhile_append_dropWhile
  generalize s.takeWhile p = a at *
  generalize s.dropWhile p = b at *
  subst h
  simp
theorem drop_tw (p : UInt8 → Bool) (s : L) : s.drop (s.takeWhile p).length = s.dropWhile p := by
  have h : s.takeWhile p ++ s.dropWhile p = s := List.takeWhile_append_dropWhile
  generalize s.takeWhile p = a at *
  generalize s.dropWhile p = b at *
  subst h
  simp
theorem tw_len (p : UInt8 → Bool) (s : L) : (s.takeWhile p).length ≤ s.length := by
  have h : s.takeWhile p ++ s.dropWhile p = s := List.takeWhile_append_dropWhile
  have := congrArg List.length h
  rw [List.length_append] at this
  omega
theorem dw_len (p : UInt8 → Bool) (s : L) : (s.dropWhile p).length ≤ s.length := by
  have h : s.takeWhile p ++ s.dropWhile p = s := List.takeWhile_append_dropWhile
  have := congrArg List.length h
  rw [List.length_append] at this
  omega
theorem tok_l0 (s : L) (hs : s.length ≤ 1000000000000) : ∀ (d k i : Nat), i + d = s.length → d < k →
    media_Text_Token.l0 k i (mk s) = some (mk (s.take (i + ((s.drop i).takeWhile tokB).length)), mk (s.drop (i + ((s.drop i).takeWhile tokB).length))) := by
  intro d
  induction d with
  | zero =>
    intro k i hi hk
    obtain ⟨k, rfl⟩ : ∃ k', k = k' + 1 := ⟨k - 1, by omega⟩
    rw [media_Text_Token.l0, if_neg (by rw [mk_size]; omega), if_pos (by omega), if_pos (by rw [mk_size]; omega), List.drop_eq_nil_of_le (by omega)]
    simp only [Int.toNat_natCast, List.takeWhile_nil, List.length_nil, Nat.add_zero, ext_to, ext_from]
  | succ d ih =>
    intro k i hi hk
    obtain ⟨k, rfl⟩ : ∃ k', k = k' + 1 := ⟨k - 1, by omega⟩
    obtain ⟨b, e1, e2⟩ := mk_bt s i (by omega)
    have hw : wrap64 ((i : Int) + 1) = ((i + 1 : Nat) : Int) := by rw [wrap_id (by omega) (by omega)]; omega
    rw [media_Text_Token.l0, if_pos (by rw [mk_size]; omega), if_pos (by omega), e2]
    rw [show (⟨#[48, 49, 50, 51, 52, 53, 54, 55, 56, 57, 65, 66, 67, 68, 69, 70, 71, 72, 73, 74, 75, 76, 77, 78, 79, 80, 81, 82, 83, 84, 85, 86, 87, 88, 89, 90, 97, 98, 99, 100, 101, 102, 103, 104, 105, 106, 107, 108, 109, 110, 111, 112, 113, 114, 115, 116, 117, 118, 119, 120, 121, 122, 33, 35, 36, 37, 38, 39, 42, 43, 45, 46, 94, 95, 96, 124, 126]⟩ : ByteArray) = mk signs from rfl, sigF]
    simp only [Option.bind_some]
    by_cases ht : tokB b = true
    · rw [if_pos ((sig_index b).2 ht), hw, ih k (i + 1) (by omega) (by omega), e1, List.takeWhile_cons_of_pos ht]
      simp only [List.length_cons]
      rw [show i + 1 + ((s.drop (i + 1)).takeWhile tokB).length = i + (((s.drop (i + 1)).takeWhile tokB).length + 1) by omega]
    · rw [if_neg (fun h => ht ((sig_index b).1 h)), if_pos (by rw [mk_size]; omega), e1, List.takeWhile_cons_of_neg ht]
      simp only [Int.toNat_natCast, List.length_nil, Nat.add_zero, ext_to, ext_from]
theorem tokF (s : L) (k : Nat) (hs : s.length ≤ 1000000000000) (hk : s.length < k) : media_Text_Token.f k (mk s) = some (mk (tok s).1, mk (tok s).2) := by
  unfold media_Text_Token.f
  have := tok_l0 s hs s.length k 0 (by omega) hk
  simp only [List.drop_zero, Nat.zero_add] at this
  rw [show (0 : Int) = ((0 : Nat) : Int) from rfl, this, take_tw, drop_tw]
  rfl
def isTok (s : L) : Bool := decide ((tok s).1 ≠ []) && decide ((tok s).2 = [])
theorem isTokF (s : L) (k : Nat) (hs : s.length ≤ 1000000000000) (hk : s.length < k) : field_token.f k (mk s) = some (isTok s) := by
  unfold field_token.f isTok
  rw [tokF s k hs hk]
  simp only [Option.bind_some, tl_mk]
  by_cases h : (tok s).1 = []
  · rw [if_pos h]; simp [h]
  · rw [if_neg h]
    simp [h]
    by_cases h2 : (tok s).2 = [] <;> simp [h2]

/-! ### Trimming -/
theorem bl_all : ∀ a : Fin 256, ([32, 9] : L).contains (UInt8.ofNat a.val) = bl (UInt8.ofNat a.val) := by decide +kernel
theorem bl_eq : ([32, 9].contains · : UInt8 → Bool) = bl := by
  funext c
  obtain ⟨a, rfl⟩ := u8_fin c
  exact bl_all a
theorem mem_tw {p : UInt8 → Bool} : ∀ {s : L} {x : UInt8}, x ∈ s.takeWhile p → p x = true
  | [], _, h => by simp at h
  | c :: s, x, h => by
    by_cases hc : p c = true
    · rw [List.takeWhile_cons_of_pos hc] at h
      rcases List.mem_cons.1 h with rfl | h
      · exact hc
      · exact mem_tw h
    · rw [List.takeWhile_cons_of_neg hc] at h
      simp at h
theorem rd_app (a b : L) (h : skip b.reverse ≠ []) : skip (a ++ b).reverse = skip b.reverse ++ a.reverse := by
  unfold skip at *
  rw [List.reverse_append]
  generalize b.reverse = u at *
  induction u with
  | nil => simp at h
  | cons c u ih =>
    by_cases hc : bl c = true
    · rw [List.dropWhile_cons_of_pos hc] at h
      rw [List.cons_append, List.dropWhile_cons_of_pos hc, List.dropWhile_cons_of_pos hc]
      exact ih h
    · rw [List.cons_append, List.dropWhile_cons_of_neg hc, List.dropWhile_cons_of_neg hc, List.cons_append]
theorem skip_nil {s : L} (h : skip s = []) : ∀ c ∈ s, bl c = true := by
  induction s with
  | nil => simp
  | cons c s ih =>
    unfold skip at h ih
    by_cases hc : bl c = true
    · rw [List.dropWhile_cons_of_pos hc] at h
      intro d hd
      rcases List.mem_cons.1 hd with rfl | hd
      · exact hc
      · exact ih h d hd
    · rw [List.dropWhile_cons_of_neg hc] at h
      simp at h
theorem skip_all {s : L} (h : ∀ c ∈ s, bl c = true) : skip s = [] := by
  induction s with
  | nil => rfl
  | cons c s ih =>
    unfold skip at ih ⊢
    rw [List.dropWhile_cons_of_pos (h c (by simp))]
    exact ih (fun d hd => h d (by simp [hd]))
theorem skip_head {s : L} (h : skip s ≠ []) : ∃ c r, skip s = c :: r ∧ bl c = false := by
  induction s with
  | nil => simp [skip] at h
  | cons c s ih =>
    unfold skip at h ih ⊢
    by_cases hc : bl c = true
    · rw [List.dropWhile_cons_of_pos hc] at h ⊢
      exact ih h
    · rw [List.dropWhile_cons_of_neg hc]
      exact ⟨c, s, rfl, by simpa using hc⟩
theorem trim_comm (s : L) : skip (skip s.reverse).reverse = trim s := by
  unfold trim
  by_cases h : skip s = []
  · have ha := skip_nil h
    rw [h, skip_all (s := s.reverse) (fun c hc => ha c (List.mem_reverse.1 hc))]
    rfl
  · obtain ⟨c, r, e, hc⟩ := skip_head h
    have hs : s = s.takeWhile bl ++ skip s := (List.takeWhile_append_dropWhile).symm
    have hne : skip (skip s).reverse ≠ [] := by
      intro e2
      have := skip_nil e2 c (by rw [e]; simp)
      rw [hc] at this
      simp at this
    have h1 : skip s.reverse = skip (skip s).reverse ++ (s.takeWhile bl).reverse := by
      conv => lhs; rw [hs]
      exact rd_app _ _ hne
    rw [h1, List.reverse_append, List.reverse_reverse]
    -- the head that is kept is no blank
    have hb : ∀ x ∈ s.takeWhile bl, bl x = true := fun x hx => mem_tw hx
    have hk : ∃ d t, (skip (skip s).reverse).reverse = d :: t ∧ bl d = false := by
      have hpre : ∃ t, (skip s).reverse = t ++ skip (skip s).reverse := ⟨(skip s).reverse.takeWhile bl, (List.takeWhile_append_dropWhile).symm⟩
      obtain ⟨t, ht⟩ := hpre
      have h3 := congrArg List.reverse ht
      rw [List.reverse_reverse, List.reverse_append] at h3
      cases e4 : (skip (skip s).reverse).reverse with
      | nil => exact absurd (List.reverse_eq_nil_iff.1 e4) hne
      | cons d u =>
        rw [e4, e] at h3
        simp at h3
        exact ⟨d, u, rfl, by rw [← h3.1]; exact hc⟩
    obtain ⟨d, t, e5, hd⟩ := hk
    rw [e5]
    generalize s.takeWhile bl = a at *
    clear h1 hs
    induction a with
    | nil =>
      show skip (d :: t) = d :: t
      unfold skip
      rw [List.dropWhile_cons_of_neg (by rw [hd]; simp)]
    | cons x a ih =>
      have hx := hb x (by simp)
      unfold skip at ih ⊢
      rw [List.cons_append, List.dropWhile_cons_of_pos hx]
      exact ih (fun y hy => hb y (by simp [hy]))
theorem trimS_eq (s : L) : Lib.trimS s [32, 9] = trim s := by
  unfold Lib.trimS Lib.trimLeftS Lib.trimRightS
  rw [bl_eq, ← trim_comm]
  rfl
theorem trimF (s : L) (hs : s.length ≤ 1000000000000) : strings_Trim.f (mk s) (⟨#[32, 9]⟩ : ByteArray) = some (mk (trim s)) := by
  unfold strings_Trim.f
  rw [if_pos ⟨by rw [mk_size]; omega, by decide, by decide⟩, mk_data]
  have e : ((⟨#[32, 9]⟩ : ByteArray).data.toList) = [32, 9] := rfl
  rw [e, trimS_eq]
  rfl
theorem skipF (s : L) : strings_TrimLeft.f (mk s) (⟨#[32, 9]⟩ : ByteArray) = some (mk (skip s)) := by
  unfold strings_TrimLeft.f
  rw [if_pos ⟨by decide, by decide⟩, mk_data]
  have e : ((⟨#[32, 9]⟩ : ByteArray).data.toList) = [32, 9] := rfl
  rw [e]
  unfold Lib.trimLeftS
  rw [bl_eq]
  rfl
theorem skip_len (s : L) : (skip s).length ≤ s.length := dw_len _ _
theorem trim_len (s : L) : (trim s).length ≤ s.length := by
  unfold trim
  have h1 := skip_len (skip s).reverse
  have h2 := skip_len s
  rw [List.length_reverse] at h1 ⊢
  omega

/-! ### Letters made small -/
theorem lowI_b (c : UInt8) : UInt8.ofNat (lowI c.toNat).toNat = lowB c := by
  have h := c.toNat_lt
  unfold lowI lowB
  by_cases hc : 65 ≤ c.toNat ∧ c.toNat ≤ 90
  · rw [if_pos hc, if_pos (by omega)]
    congr 1
  · rw [if_neg hc, if_neg (by omega)]
    simp
theorem range_map (s : L) (f : UInt8 → UInt8) (g : Nat → Int) (h : ∀ (j : Nat) (hj : j < s.length), UInt8.ofNat (g j).toNat = f s[j]) : ((List.range s.length).map g).map (fun x => UInt8.ofNat x.toNat) = s.map f := by
  apply List.ext_getElem
  · simp
  · intro j h1 h2
    simp at h1 h2 ⊢
    exact h j h2
theorem lowF (s : L) (hs : s.length ≤ 1000000000000) : media_Small.f (mk s) = some (mk (low s)) := by
  unfold media_Small.f
  rw [if_pos (by rw [mk_size]; omega)]
  congr 1
  unfold strOfNums smallAt low
  apply ba_ext
  rw [mk_data, mk_size]
  simp only [List.toList_toArray]
  refine range_map s lowB _ (fun j hj => ?_)
  obtain ⟨b, e1, e2⟩ := mk_bt s j hj
  have e3 : s[j] = b := by
    have := List.drop_eq_getElem_cons hj
    rw [e1] at this
    exact (List.cons.inj this).1.symm
  rw [if_pos hj, e2, e3, lowI_b]
theorem low_len (s : L) : (low s).length = s.length := by simp [low]

/-! ### Values -/
theorem badI_b (c : UInt8) : badI (c.toNat : Int) = ctl c := by
  unfold badI ctl
  have h9 : ((c.toNat : Int) == 9) = (c == 9) := by
    rw [Bool.eq_iff_iff, beq_iff_eq, beq_iff_eq, show (9 : Int) = ((9 : Nat) : Int) from rfl, u8i c 9 (by omega)]
    rfl
  have h127 : ((c.toNat : Int) == 127) = (c == 127) := by
    rw [Bool.eq_iff_iff, beq_iff_eq, beq_iff_eq, show (127 : Int) = ((127 : Nat) : Int) from rfl, u8i c 127 (by omega)]
    rfl
  have h32 : decide ((c.toNat : Int) < 32) = decide (c.toNat < 32) := by
    rw [Bool.eq_iff_iff, decide_eq_true_eq, decide_eq_true_eq]
    omega
  rw [h9, h127, h32]
theorem any_ctl (s : L) : (List.range (mk s).size).any (fun j => badI (bt (mk s) j)) = !s.all (fun c => !ctl c) := by
  rw [mk_size, Bool.eq_iff_iff, List.any_eq_true, Bool.not_eq_true', List.all_eq_false]
  constructor
  · rintro ⟨j, hj, h⟩
    have hj := List.mem_range.1 hj
    obtain ⟨b, e1, e2⟩ := mk_bt s j hj
    rw [e2, badI_b] at h
    exact ⟨b, List.mem_of_mem_drop (by rw [e1]; simp), by simp [h]⟩
  · rintro ⟨b, hb, h⟩
    obtain ⟨j, hj, rfl⟩ := List.getElem_of_mem hb
    obtain ⟨b, e1, e2⟩ := mk_bt s j hj
    have e3 : s[j] = b := by
      have := List.drop_eq_getElem_cons hj
      rw [e1] at this
      exact (List.cons.inj this).1.symm
    refine ⟨j, List.mem_range.2 hj, ?_⟩
    rw [e2, badI_b, ← e3]
    simpa using h
theorem fvalF (s : L) (hs : s.length ≤ 1000000000000) : field_value.f (mk s) = some (fval s) := by
  unfold field_value.f
  rw [if_pos (by rw [mk_size]; omega), any_ctl]
  unfold fval trimB
  congr 1
  rw [mk_data, trimS_eq]
  have e : (⟨(trim s).toArray⟩ : ByteArray) = mk (trim s) := rfl
  rw [e, tl_mk, tl_mk]
  cases s.all (fun c => !ctl c) with
  | false => simp
  | true => 
    simp
    rw [Bool.eq_iff_iff]
    simp

/-! ### Pairs -/
theorem cut_l (s sep : L) : strings_Cut.f (mk s) (mk sep) = if s.length < 4294967281 then some (mk (Lib.cut s sep).1, mk (Lib.cut s sep).2.1, (Lib.cut s sep).2.2) else none := by
  unfold strings_Cut.f cutF
  rw [mk_size, mk_data, mk_data]
  rfl
theorem index1_eq (c : UInt8) (r : L) : Lib.index (c :: r) [c] = 0 := by simp [Lib.index, List.isPrefixOf]
theorem index1_other (c x : UInt8) (r : L) (h : x ≠ c) : Lib.index (x :: r) [c] = if Lib.index r [c] == -1 then -1 else Lib.index r [c] + 1 := by
  have h' : (c == x) = false := by simpa using fun e : c = x => h e.symm
  simp [Lib.index, List.isPrefixOf, h']
theorem index1 (c : UInt8) : ∀ s : L, (c ∉ s ∧ Lib.index s [c] = -1) ∨ (∃ a b, s = a ++ c :: b ∧ c ∉ a ∧ Lib.index s [c] = a.length)
  | [] => .inl ⟨by simp, by simp [Lib.index]⟩
  | x :: r => by
    by_cases h : x = c
    · subst h
      exact .inr ⟨[], r, rfl, by simp, by rw [index1_eq]; rfl⟩
    · rw [index1_other c x r h]
      rcases index1 c r with ⟨e1, e2⟩ | ⟨a, b, e1, e2, e3⟩
      · rw [e2]
        exact .inl ⟨by simp [e1]; exact fun e => h e.symm, rfl⟩
      · rw [e3]
        have hb : ((a.length : Int) == -1) = false := by simp
        rw [hb, if_neg (by decide)]
        exact .inr ⟨x :: a, b, by simp [e1], by simp [e2]; exact fun e => h e.symm, by simp⟩
theorem cut1_none {c : UInt8} {s : L} (h : c ∉ s) : Lib.cut s [c] = (s, [], false) := by
  rcases index1 c s with ⟨e1, e2⟩ | ⟨a, b, e1, e2, e3⟩
  · unfold Lib.cut; rw [e2, if_neg (by omega)]
  · exact absurd (by rw [e1]; simp) h
theorem cut1_some {c : UInt8} (a b : L) (h : c ∉ a) : Lib.cut (a ++ c :: b) [c] = (a, b, true) := by
  rcases index1 c (a ++ c :: b) with ⟨e1, e2⟩ | ⟨a', b', e1, e2, e3⟩
  · exact absurd (by simp) e1
  · have hl : a = a' ∧ b = b' := by
      clear e3
      induction a generalizing a' with
      | nil =>
        cases a' with
        | nil => simp at e1; exact ⟨rfl, e1⟩
        | cons x a' => simp at e1; exact absurd (by simp [e1.1]) e2
      | cons y a ih =>
        cases a' with
        | nil => simp at e1; exact absurd (by simp [e1.1]) h
        | cons x a' =>
          simp at e1
          obtain ⟨rfl, e1⟩ := e1
          obtain ⟨h1, h2⟩ := ih (fun e => h (by simp [e])) a' e1 (fun e => e2 (by simp [e]))
          exact ⟨by rw [h1], h2⟩
    obtain ⟨rfl, rfl⟩ := hl
    unfold Lib.cut
    rw [e3, if_pos (by omega)]
    simp
theorem tok58 : tokB 58 = false := by decide
theorem tok_app {a b : L} {c : UInt8} (ha : ∀ x ∈ a, tokB x = true) (hc : tokB c = false) : tok (a ++ c :: b) = (a, c :: b) := by
  unfold tok
  induction a with
  | nil =>
    have hc' : ¬ tokB c = true := by rw [hc]; simp
    simp only [List.nil_append]
    rw [List.takeWhile_cons_of_neg hc', List.dropWhile_cons_of_neg hc']
  | cons x a ih =>
    have hx := ha x (by simp)
    have := ih (fun y hy => ha y (by simp [hy]))
    rw [List.cons_append, List.takeWhile_cons_of_pos hx, List.dropWhile_cons_of_pos hx]
    simp only [Prod.mk.injEq] at this
    rw [this.1, this.2]
theorem tok_all {a : L} (ha : ∀ x ∈ a, tokB x = true) : tok a = (a, []) := by
  unfold tok
  induction a with
  | nil => rfl
  | cons x a ih =>
    have hx := ha x (by simp)
    have := ih (fun y hy => ha y (by simp [hy]))
    rw [List.takeWhile_cons_of_pos hx, List.dropWhile_cons_of_pos hx]
    simp only [Prod.mk.injEq] at this
    rw [this.1, this.2]
theorem tok_parts (s : L) : s = (tok s).1 ++ (tok s).2 ∧ (∀ x ∈ (tok s).1, tokB x = true) ∧ (∀ c r, (tok s).2 = c :: r → tokB c = false) := by
  refine ⟨(List.takeWhile_append_dropWhile).symm, fun x hx => mem_tw hx, fun c r h => ?_⟩
  · unfold tok at h
    simp only at h
    induction s with
    | nil => simp at h
    | cons x s ih =>
      by_cases hx : tokB x = true
      · rw [List.dropWhile_cons_of_pos hx] at h
        exact ih h
      · rw [List.dropWhile_cons_of_neg hx] at h
        obtain ⟨rfl, rfl⟩ := List.cons.inj h
        simpa using hx
theorem isTok_iff (s : L) : isTok s = true ↔ s ≠ [] ∧ ∀ x ∈ s, tokB x = true := by
  obtain ⟨h1, h2, h3⟩ := tok_parts s
  unfold isTok
  simp only [Bool.and_eq_true, decide_eq_true_eq]
  constructor
  · rintro ⟨a, b⟩
    rw [b, List.append_nil] at h1
    exact ⟨by rw [h1]; exact a, by rw [h1]; exact h2⟩
  · rintro ⟨a, b⟩
    rw [tok_all b]
    exact ⟨a, rfl⟩
/-- What the program makes of a line. -/
def pairP (l : L) : L × L × Bool := (low (Lib.cut l [58]).1, trim (Lib.cut l [58]).2.1, (Lib.cut l [58]).2.2 && isTok (Lib.cut l [58]).1 && fval (trim (Lib.cut l [58]).2.1))
theorem pairP_eq (l : L) : pairOf l = if (pairP l).2.2 = true then some ((pairP l).1, (pairP l).2.1) else none := by
  obtain ⟨h1, h2, h3⟩ := tok_parts l
  unfold pairP pairOf
  rcases index1 58 l with ⟨e1, _⟩ | ⟨a, b, e1, e2, _⟩
  · rw [cut1_none e1]
    simp only [Bool.false_and]
    refine Eq.trans ?_ (if_neg (by decide)).symm
    by_cases q1 : (tok l).1 = []
    · rw [if_pos q1]
    · rw [if_neg q1, if_pos]
      intro q2
      apply e1
      rw [h1]
      cases e : (tok l).2 with
      | nil => rw [e] at q2; simp at q2
      | cons c r => rw [e] at q2; simp at q2; subst q2; simp
  · rw [e1, cut1_some a b e2]
    simp only [Bool.true_and]
    by_cases ha : ∀ x ∈ a, tokB x = true
    · rw [tok_app ha tok58]
      simp only [List.head?_cons, List.tail_cons]
      by_cases q1 : a = []
      · rw [if_pos q1, if_neg]
        simp [q1, isTok, tok]
      · have hi : isTok a = true := (isTok_iff a).2 ⟨q1, ha⟩
        rw [if_neg q1, hi, Bool.true_and]
        simp <;> rfl
    · have hi : isTok a = false := by
        rw [Bool.eq_false_iff]
        exact fun h => ha ((isTok_iff a).1 h).2
      rw [hi, Bool.false_and]
      refine Eq.trans ?_ (if_neg (by decide)).symm
      rw [← e1]
      by_cases q1 : (tok l).1 = []
      · rw [if_pos q1]
      · rw [if_neg q1, if_pos]
        intro q2
        apply ha
        -- the token would end at the first 58
        cases e : (tok l).2 with
        | nil => rw [e] at q2; simp at q2
        | cons c r =>
          rw [e] at q2
          simp at q2
          subst q2
          rw [e, e1] at h1
          have hn : (58 : UInt8) ∉ (tok (a ++ 58 :: b)).1 := fun h => by
            have := h2 58 (by rw [e1]; exact h)
            rw [tok58] at this
            simp at this
          have c1 := cut1_some a b e2
          have c2 := cut1_some (tok (a ++ 58 :: b)).1 r hn
          rw [← h1, c1] at c2
          have c3 := (Prod.mk.inj c2).1
          intro x hx
          rw [c3] at hx
          exact h2 x (by rw [e1]; exact hx)
theorem pairF (l : L) (k : Nat) (hl : l.length < 4294967281) (hk : l.length < k) : field_pair.f k (mk l) = some (mk (pairP l).1, mk (pairP l).2.1, (pairP l).2.2) := by
  have hc : (Lib.cut l [58]).1.length ≤ l.length ∧ (Lib.cut l [58]).2.1.length ≤ l.length := by
    rcases index1 58 l with ⟨e1, _⟩ | ⟨a, b, e1, e2, _⟩
    · rw [cut1_none e1]; simp
    · rw [e1, cut1_some a b e2]; simp; omega
  unfold field_pair.f pairP
  rw [show (⟨#[58]⟩ : ByteArray) = mk [58] from rfl, cut_l, if_pos hl]
  generalize Lib.cut l [58] = q at *
  obtain ⟨x, y, z⟩ := q
  simp only [Option.bind_some] at hc ⊢
  have ht := trim_len y
  rw [trimF y (by omega)]
  simp only [Option.bind_some]
  rw [lowF x (by omega)]
  simp only [Option.bind_some]
  cases z with
  | false => simp
  | true =>
    rw [if_pos rfl, isTokF x k (by omega) (by omega)]
    simp only [Option.bind_some, Bool.true_and]
    cases isTok x with
    | false => simp
    | true =>
      rw [if_pos rfl, fvalF _ (by omega)]
      simp
end Go.Proofs.YteonhdfjfjpbjaaDoor.Sp

/- Ofld -/
namespace Go.Proofs.YteonhdfjfjpbjaaDoor.O
open Go.RowKit Go.Shelf Go.Proofs.YteonhdfjfjpbjaaDoorW.PrintWords Go.Proofs.YteonhdfjfjpbjaaDoorW.PrintLast Go.Proofs.YteonhdfjfjpbjaaDoorW.PrintMore Go.Proofs.YteonhdfjfjpbjaaDoor.P Go.Proofs.YteonhdfjfjpbjaaDoor.Sp
attribute [local go_sem] Oper.semAt_some
set_option linter.unusedVariables false
set_option linter.unusedSimpArgs false

def flatV (l : List (Sp.L × Sp.L)) : List Value := l.flatMap fun p => [.string (Sp.mk p.1), .string (Sp.mk p.2)]
def fieldsB (s : ByteArray) : List S69 × ByteArray × Int := (pairsB (Sp.fields s.data.toList).1, Sp.mk (Sp.fields s.data.toList).2.1, (Sp.fields s.data.toList).2.2)
def field_Parse.f (a0 : ByteArray) : Option (List S69 × ByteArray × Int) := if a0.size < 4294967281 then some (fieldsB a0) else none
theorem flat_reps (w : World) (base : Nat) (ok : Nat → Prop) : ∀ l, Reps (k69.M w base ok) 2 (pairsB l) (flatV l)
  | [] => Reps.none _ _
  | p :: l => by
    have h1 : Reps (k69.M w base ok) 2 ([] ++ [⟨Sp.mk p.1, Sp.mk p.2⟩]) ([] ++ [.string (Sp.mk p.1), .string (Sp.mk p.2)]) := (Reps.none _ _).snoc (k69_mkM w base ok _) rfl
    exact Kd.reps_append h1 (flat_reps w base ok l)
theorem flat_row {w : World} {base : Nat} {v : Value} {l : List (Sp.L × Sp.L)} (h : w.ownsRow base 69 2 v l.length (flatV l)) : Kd.R k69 69 w base (fun _ => True) v (pairsB l) :=
  ⟨fun _ _ => trivial, flatV l, by rw [show (pairsB l).length = l.length from by simp [pairsB]]; exact h, flat_reps _ _ _ l⟩
theorem lines_in (n : Nat) (s : ByteArray) (w : World) : CallsIn Fence.wide n Tryd.prog 30 #[.string s] w fun e w' => e = .returned (.func (.func 55) #[] #[.pointer (some ⟨w.heap.size, 0, none⟩)]) ∧ w' = w.alloc (.cells #[.string s] 9) := by
  refine callsIn_of_wp Tryd.func30 rfl trivial ?_ rfl
  simp only [Tryd.ntmps30, List.size_toArray, List.length_cons, List.length_nil, Nat.reduceAdd, Nat.reduceSub, Array.replicate_succ, Array.replicate_zero, List.push_toArray, List.append_toArray, List.nil_append, List.cons_append]
  gi_wp2
  go_ret
  exact ⟨rfl, rfl⟩
/-- What lies between two rounds. N: the whole text's length; R: what the parser comes to. -/
structure Between (w : World) (a0 : ByteArray) (R : List (Sp.L × Sp.L) × Sp.L × Int) (cur : ByteArray) (W : World) : Prop where
  row : ∃ f acc v, Sp.fparse a0.size f cur.data.toList acc = R ∧ cur.size < f ∧ acc.length + cur.size ≤ a0.size ∧ Boxed W (w.heap.size + 1) 46 v ∧ W.ownsRow w.heap.size 69 2 v acc.length (flatV acc)
  s : Boxed W w.heap.size 9 (.string a0)
  rest : Boxed W (w.heap.size + 2) 9 (.string ⟨#[]⟩)
  e : Boxed W (w.heap.size + 3) 23 (.int .i64 0)
  it : ∃ u, Boxed W (w.heap.size + 4) 9 u
  bel : Below w.heap.size w W
/-- How the rounds were left. -/
structure Left (w : World) (a0 : ByteArray) (R : List (Sp.L × Sp.L) × Sp.L × Int) (c : Code) (W : World) : Prop where
  how : (c = .exit 0 ∧ R = ([], [], if a0.size > 8000 then 2 else 180) ∧ (∃ v, Boxed W (w.heap.size + 1) 46 v) ∧ Boxed W (w.heap.size + 2) 9 (.string ⟨#[]⟩) ∧ Boxed W (w.heap.size + 3) 23 (.int .i64 0)) ∨
    (c = .ret ∧ (∃ v, Boxed W (w.heap.size + 1) 46 v ∧ W.ownsRow w.heap.size 69 2 v R.1.length (flatV R.1)) ∧ Boxed W (w.heap.size + 2) 9 (.string (Sp.mk R.2.1)) ∧ Boxed W (w.heap.size + 3) 23 (.int .i64 R.2.2))
  s : Boxed W w.heap.size 9 (.string a0)
  bel : Below w.heap.size w W
theorem Between.own (w : World) (a0 : ByteArray) (R) : OwnFrom (w.heap.size + 5) (Between w a0 R) := by
  intro cur W W' row h hg hr
  have kb : ∀ {B t v}, Boxed W B t v → B < w.heap.size + 5 → Boxed W' B t v := fun hb hlt => hb.kept hg (fun e => by have := (hr _ e.symm).1; omega)
  obtain ⟨⟨f, acc, v, h1, h2, h3, h4, h5⟩, hs, hrest, he, ⟨u, hit⟩, hbel⟩ := h
  refine ⟨⟨f, acc, v, h1, h2, h3, kb h4 (by omega), ?_⟩, kb hs (by omega), kb hrest (by omega), kb he (by omega), ⟨u, kb hit (by omega)⟩, hbel.grown hg hbel.size (fun k e => by have := (hr k e).1; omega)⟩
  refine own_move h5 (fun k hk => hg.block k (own_lt h5 k hk) (fun e => ?_))
  obtain ⟨o, ho, hc⟩ := (hr k e.symm).2
  obtain ⟨cells, hcell⟩ := own_typed h5 k hk
  rw [hcell] at ho
  injection ho with ho
  subst ho
  simp [Obj.isCells] at hc
theorem Left.own (w : World) (a0 : ByteArray) (R) : OwnFrom (w.heap.size + 5) (Left w a0 R) := by
  intro c W W' row h hg hr
  have kb : ∀ {B t v}, Boxed W B t v → B < w.heap.size + 5 → Boxed W' B t v := fun hb hlt => hb.kept hg (fun e => by have := (hr _ e.symm).1; omega)
  obtain ⟨hh, hs, hbel⟩ := h
  refine ⟨?_, kb hs (by omega), hbel.grown hg hbel.size (fun k e => by have := (hr k e).1; omega)⟩
  rcases hh with ⟨e1, e2, ⟨v, hv⟩, h2, h3⟩ | ⟨e1, ⟨v, hv, h5⟩, h2, h3⟩
  · exact .inl ⟨e1, e2, ⟨v, kb hv (by omega)⟩, kb h2 (by omega), kb h3 (by omega)⟩
  · refine .inr ⟨e1, ⟨v, kb hv (by omega), ?_⟩, kb h2 (by omega), kb h3 (by omega)⟩
    refine own_move h5 (fun k hk => hg.block k (own_lt h5 k hk) (fun e => ?_))
    obtain ⟨o, ho, hc⟩ := (hr k e.symm).2
    obtain ⟨cells, hcell⟩ := own_typed h5 k hk
    rw [hcell] at ho
    injection ho with ho
    subst ho
    simp [Obj.isCells] at hc
theorem Between.stays (w : World) (a0 : ByteArray) (R) (cur : ByteArray) : Stays (w.heap.size + 4) (Between w a0 R cur) := by
  constructor
  · intro W x h
    obtain ⟨⟨f, acc, v, h1, h2, h3, h4, h5⟩, hs, hrest, he, ⟨u, hit⟩, hbel⟩ := h
    refine ⟨⟨f, acc, v, h1, h2, h3, h4.other (by omega) _, ?_⟩, hs.other (by omega) _, hrest.other (by omega) _, he.other (by omega) _, ⟨x, hit.set x⟩, hbel.setCell (p := ⟨w.heap.size + 4, 0, none⟩) (by show w.heap.size ≤ w.heap.size + 4; omega) x⟩
    refine own_move h5 (fun k hk => Below.heap_setCell W _ x k (fun e => ?_))
    obtain ⟨cells, hcell⟩ := own_typed h5 k hk
    have hB : W.heap[w.heap.size + 4]? = some (.cells #[u] 9 (0, 0)) := hit
    rw [e, hB] at hcell
    injection hcell with hcell
    injection hcell with _ h9 _
    revert h9
    decide
  · intro W k h
    obtain ⟨hrow, hs, hrest, he, hit, hbel⟩ := h
    exact ⟨hrow, hs, hrest, he, hit, ⟨hbel.1, hbel.2, hbel.3, hbel.4, hbel.5⟩⟩
theorem line_of {cur x y : ByteArray} (h : lineB cur = some (x, y)) : Sp.line cur.data.toList = some (x.data.toList, y.data.toList) := by
  unfold lineB at h
  cases e : Sp.line cur.data.toList with
  | none => rw [e] at h; simp at h
  | some p =>
    rw [e] at h
    simp only [Option.map_some, Option.some.injEq, Prod.mk.injEq] at h
    obtain ⟨rfl, rfl⟩ := h
    rfl
theorem fparse_step (N f : Nat) (cur x y : ByteArray) (acc : List (Sp.L × Sp.L)) (h : lineB cur = some (x, y)) : Sp.fparse N (f + 1) cur.data.toList acc =
    if N - y.size > 8000 then ([], [], if N > 8000 then 2 else 180) else if x.data.toList = [] then (acc, y.data.toList, 0) else if (Sp.pairP x.data.toList).2.2 = true then Sp.fparse N f y.data.toList (acc ++ [((Sp.pairP x.data.toList).1, (Sp.pairP x.data.toList).2.1)]) else ([], [], 180) := by
  rw [Sp.fparse, line_of h]
  simp only
  rw [← Lib.size_eq, Sp.pairP_eq]
  by_cases h1 : N - y.size > 8000
  · rw [if_pos h1, if_pos h1]
  · rw [if_neg h1, if_neg h1]
    by_cases h2 : x.data.toList = []
    · rw [if_pos h2, if_pos h2]
    · rw [if_neg h2, if_neg h2]
      cases h3 : (Sp.pairP x.data.toList).2.2 <;> simp
theorem fparse_stop (N f : Nat) (cur : ByteArray) (acc : List (Sp.L × Sp.L)) (h : lineB cur = none) : Sp.fparse N (f + 1) cur.data.toList acc = ([], [], if N > 8000 then 2 else 180) := by
  have e : Sp.line cur.data.toList = none := by
    unfold lineB at h
    cases e : Sp.line cur.data.toList with
    | none => rfl
    | some p => rw [e] at h; simp at h
  rw [Sp.fparse, e]
theorem bx_below {W W1 : World} {B : Nat} {t : TypeId} {v : Value} (h : Boxed W B t v) (hb : Below W.heap.size W W1) : Boxed W1 B t v := (hb.block B h.lt).trans h
theorem bx_set {W : World} {B : Nat} {t : TypeId} {v : Value} (h : Boxed W B t v) (p : Addr) (hne : B ≠ p.block) (x : Value) : Boxed (W.setCell p x) B t v := (Below.heap_setCell W p x B hne).trans h
theorem keeps_below {W W1 : World} (hb : Below W.heap.size W W1) (N : Nat) : KeepsFrom N W W1 := ⟨hb.size, fun k o _ hk _ => (hb.block k (Array.getElem?_eq_some_iff.1 hk).1).trans hk⟩
theorem row_below {W W1 : World} {base k : Nat} {e : TypeId} {v : Value} {xs : List Value} (h : W.ownsRow base e 2 v k xs) (hb : Below W.heap.size W W1) : W1.ownsRow base e 2 v k xs := own_move h (fun j hj => hb.block j (own_lt h j hj))
theorem cells_two (w : World) (o : Obj) (x y : Value) : ∀ (j : Nat) u, [x, y][j]? = some u → ((w.alloc o).alloc (.cells #[x, y] 69)).cell? ((⟨w.heap.size + 1, 0, none⟩ : Addr).add j) = some u := by
  intro j u hj
  have e : w.heap.size + 1 = (w.alloc o).heap.size := (World.size_alloc _ _).symm
  match j, hj with
  | 0, hj =>
    simp at hj
    subst hj
    rw [e]
    simp [Addr.add]
  | 1, hj =>
    simp at hj
    subst hj
    rw [e]
    simp [Addr.add]
theorem own_slice {W : World} {base k : Nat} {e : TypeId} {v : Value} {xs : List Value} (h : W.ownsRow base e 2 v k xs) : ∃ A c, v = .slice A k c := by
  rcases h.2 with ⟨rfl, rfl⟩ | ⟨g, cap, cur, rfl, _⟩
  · exact ⟨none, 0, rfl⟩
  · exact ⟨_, cap, rfl⟩
theorem row_far {W : World} {base k B : Nat} {t : TypeId} {u x v : Value} {xs : List Value} (h : W.ownsRow base 69 2 v k xs) (hb : Boxed W B t u) (ht : t ≠ 69) : (W.setCell ⟨B, 0, none⟩ x).ownsRow base 69 2 v k xs := by
  refine own_move h (fun j hj => Below.heap_setCell W _ x j (fun e => ?_))
  obtain ⟨cells, hcell⟩ := own_typed h j hj
  have hB : W.heap[B]? = some (.cells #[u] t (0, 0)) := hb
  rw [e, hB] at hcell
  injection hcell with hcell
  injection hcell with _ h9 _
  exact ht h9
theorem row_set3 {w W : World} {k : Nat} {v u1 u2 u3 x1 x2 x3 : Value} {xs : List Value} (h : W.ownsRow w.heap.size 69 2 v k xs) (h1 : Boxed W (w.heap.size + 1) 46 u1) (h2 : Boxed W (w.heap.size + 2) 9 u2) (h3 : Boxed W (w.heap.size + 3) 23 u3) :
    (((W.setCell ⟨w.heap.size + 1, 0, none⟩ x1).setCell ⟨w.heap.size + 2, 0, none⟩ x2).setCell ⟨w.heap.size + 3, 0, none⟩ x3).ownsRow w.heap.size 69 2 v k xs :=
  row_far (row_far (row_far h h1 (by decide)) (h2.other (by omega) _) (by decide)) ((h3.other (by omega) _).other (by omega) _) (by decide)
theorem parse_leaves {tmps : Array Value} {w W : World} {D : Nat} {v : Value} {a0 r2 : ByteArray} {r3 : Int} {l : List (Sp.L × Sp.L)} {o : Option (List Deferred)} {F : List (Sp.L × Sp.L) × Sp.L × Int}
    (t2 : tmps[2]? = some (.pointer (some ⟨w.heap.size + 1, 0, none⟩))) (t3 : tmps[3]? = some (.pointer (some ⟨w.heap.size + 2, 0, none⟩))) (t4 : tmps[4]? = some (.pointer (some ⟨w.heap.size + 3, 0, none⟩)))
    (hK : W.heap[D]? = some (.deferred o)) (hv : Boxed W (w.heap.size + 1) 46 v) (hr : Boxed W (w.heap.size + 2) 9 (.string r2)) (he : Boxed W (w.heap.size + 3) 23 (.int .i64 r3))
    (hrow : W.ownsRow w.heap.size 69 2 v l.length (flatV l)) (hbel : Below w.heap.size w W) (hD : w.heap.size + 5 ≤ D) (hF : Sp.fields a0.data.toList = F) (hF2 : (l, r2, r3) = (F.1, Sp.mk F.2.1, F.2.2)) :
    LeavesInM Fence.wide 10 Tryd.prog Tryd.f16 tmps (fun e w' => ∃ v0_ : Value, e = .returned (.tuple #[v0_, .string (fieldsB a0).2.1, .int .i64 (fieldsB a0).2.2]) ∧ Kd.R k69 69 w' w.heap.size (fun _ => True) v0_ (fieldsB a0).1 ∧ Below w.heap.size w w') [] .returning (W.putObj D (.deferred none)) := by
  have g := grownBy_putObj' W D (.deferred none)
  have kb : ∀ {B t u}, Boxed W B t u → B < w.heap.size + 5 → Boxed (W.putObj D (.deferred none)) B t u := fun hb hlt => hb.kept g (fun e => by have := Option.some.inj e; omega)
  have c1 := (kb hv (by omega)).cell
  have c2 := (kb hr (by omega)).cell
  have c3 := (kb he (by omega)).cell
  have e : fieldsB a0 = (pairsB l, r2, r3) := by
    unfold fieldsB
    rw [hF]
    obtain ⟨rfl, h2⟩ := Prod.mk.inj hF2
    obtain ⟨rfl, rfl⟩ := Prod.mk.inj h2
    rfl
  rw [e]
  refine ⟨.tuple #[v, .string r2, .int .i64 r3], ?_, v, rfl, flat_row ?_, ?_⟩
  · simp [results, Tryd.f16, go_sem, t2, t3, t4, c1, c2, c3]
  · refine own_move hrow (fun k hk => g.block k (own_lt hrow k hk) (fun e2 => ?_))
    obtain ⟨cells, hcell⟩ := own_typed hrow k hk
    obtain rfl := Option.some.inj e2
    rw [hK] at hcell
    cases hcell
  · exact hbel.grown g hbel.size (fun k ek => by have := Option.some.inj ek; omega)
set_option maxRecDepth 100000 in
set_option maxHeartbeats 4000000 in
theorem parse_in (a0 : ByteArray) (w : World) (hG : Glob w) (hs : a0.size < 4294967281) :
    Calls Tryd.prog 16 #[.string a0] w fun e w' => ∃ v0_ : Value, e = .returned (.tuple #[v0_, .string (fieldsB a0).2.1, .int .i64 (fieldsB a0).2.2]) ∧ Kd.R k69 69 w' w.heap.size (fun _ => True) v0_ (fieldsB a0).1 ∧ Below w.heap.size w w' := by
  obtain ⟨i0, hi, hz0, hz1', hz2⟩ := info_parts info69
  refine (callsIn_wide (n := 10)).1 ?_
  have hfl : Fence.wide.fn 30 := trivial
  have hn10 : 1 ≤ 10 := by omega
  refine callsIn_of_wp_marks Tryd.func16 rfl trivial ?_ rfl
  simp only [Tryd.ntmps16, List.size_toArray, List.length_cons, List.length_nil, Nat.reduceAdd, Nat.reduceSub, Array.replicate_succ, Array.replicate_zero, List.push_toArray, List.append_toArray, List.nil_append, List.cons_append]
  gi_wp2_with (gi_at_call 30; refine (lines_in _ _ _).mono ?_; rintro e w' ⟨rfl, rfl⟩)
  simp only [Nat.add_assoc, Nat.reduceAdd]
  obtain ⟨R, hR⟩ : ∃ R, R = Sp.fields a0.data.toList := ⟨_, rfl⟩
  have hbox0 : Boxed ((((((w.alloc (Obj.cells #[Value.string a0] 9)).alloc (Obj.cells #[Value.slice none 0 0] 46)).alloc (Obj.cells #[Value.string ⟨#[]⟩] 9)).alloc (Obj.cells #[Value.int IntKind.i64 0] 23)).alloc (Obj.cells #[Value.string a0] 9))) (w.heap.size + 4) 9 (.string a0) := by
    have := Boxed.new ((((w.alloc (Obj.cells #[Value.string a0] 9)).alloc (Obj.cells #[Value.slice none 0 0] 46)).alloc (Obj.cells #[Value.string ⟨#[]⟩] 9)).alloc (Obj.cells #[Value.int IntKind.i64 0] 23)) 9 (.string a0)
    simpa only [World.size_alloc, Nat.add_assoc, Nat.reduceAdd] using this
  have hbt : Between w a0 R a0 ((((((w.alloc (Obj.cells #[Value.string a0] 9)).alloc (Obj.cells #[Value.slice none 0 0] 46)).alloc (Obj.cells #[Value.string ⟨#[]⟩] 9)).alloc (Obj.cells #[Value.int IntKind.i64 0] 23)).alloc (Obj.cells #[Value.string a0] 9))) := by
    have p0 := Boxed.new w 9 (.string a0)
    have p1 := Boxed.new (w.alloc (Obj.cells #[Value.string a0] 9)) 46 (.slice none 0 0)
    have p2 := Boxed.new ((w.alloc (Obj.cells #[Value.string a0] 9)).alloc (Obj.cells #[Value.slice none 0 0] 46)) 9 (.string ⟨#[]⟩)
    have p3 := Boxed.new (((w.alloc (Obj.cells #[Value.string a0] 9)).alloc (Obj.cells #[Value.slice none 0 0] 46)).alloc (Obj.cells #[Value.string ⟨#[]⟩] 9)) 23 (.int .i64 0)
    simp only [World.size_alloc, Nat.add_assoc, Nat.reduceAdd] at p1 p2 p3
    refine ⟨⟨a0.data.toList.length + 1, [], _, ?_, ?_, ?_, ((p1.alloc _).alloc _).alloc _, World.ownsRow_nil _ _ _ _⟩, (((p0.alloc _).alloc _).alloc _).alloc _, (p2.alloc _).alloc _, p3.alloc _, ⟨_, hbox0⟩, ?_⟩
    · rw [hR, Lib.size_eq]; rfl
    · rw [Lib.size_eq]; omega
    · simp
    · exact ((((((Below.refl _ w).alloc (Nat.le_refl _) _).alloc (by simp) _).alloc (by simp; omega) _).alloc (by simp; omega) _).alloc (by simp; omega) _)
  have hsz5 : ((((((w.alloc (Obj.cells #[Value.string a0] 9)).alloc (Obj.cells #[Value.slice none 0 0] 46)).alloc (Obj.cells #[Value.string ⟨#[]⟩] 9)).alloc (Obj.cells #[Value.int IntKind.i64 0] 23)).alloc (Obj.cells #[Value.string a0] 9))).heap.size = w.heap.size + 5 := by simp only [World.size_alloc]
  generalize ((((((w.alloc (Obj.cells #[Value.string a0] 9)).alloc (Obj.cells #[Value.slice none 0 0] 46)).alloc (Obj.cells #[Value.string ⟨#[]⟩] 9)).alloc (Obj.cells #[Value.int IntKind.i64 0] 23)).alloc (Obj.cells #[Value.string a0] 9))) = W0 at *
  have hbt' := Lib.hid hbt
  have hbox' := Lib.hid hbox0
  have hsz' := Lib.hid hsz5
  have hR' := Lib.hid hR
  clear hbt hbox0 hR hsz5
  refine range_lines (F := Fence.wide) (n := 10) rfl (by omega) (gf := 55) (lb := #[.pointer (some ⟨w.heap.size + 4, 0, none⟩)]) rfl trivial (enters_of Tryd.func55 (by kernel_rfl) rfl)
    (lines_stops 9 (by omega) (w.heap.size + 4) a0 W0 hs (by rw [hsz'.out]; omega) hbox'.out) (by rw [hsz'.out]; omega) rfl
    (Between w a0 R) (Left w a0 R) (by rw [hsz'.out]; exact Between.own w a0 R) (by rw [hsz'.out]; exact Left.own w a0 R) (Between.stays w a0 R) (fun c W h => hG.below h.bel) hbt'.out
    (fun x y => { tmps := #[Value.string a0, Value.pointer (some { block := w.heap.size, off := 0 }), Value.pointer (some { block := w.heap.size + 1, off := 0 }), Value.pointer (some { block := w.heap.size + 2, off := 0 }), Value.pointer (some { block := w.heap.size + 3, off := 0 }), .string x, .string y, undef, undef, Value.string a0, Value.func (Fn.func 55) #[] #[Value.pointer (some { block := w.heap.size + 4, off := 0 })], .string x, .string y, undef, undef, undef, undef, undef, undef, undef, undef, undef, undef, undef, undef, undef, undef, undef, undef, undef, undef, undef, undef, undef, undef, undef, undef], defers := [] }) ?assign ?body ?done ?stop
  case assign =>
    intro l x y W K hK
    gi_wp2
    exact hK
  case body =>
    intro l cur x y W hb hline
    obtain ⟨⟨f, acc, v, hf, hcf, hlen, hv, hrow⟩, hsb, hrb, heb, hib, hbel⟩ := hb
    have hsz := lineB_size cur x y hline
    obtain ⟨f, rfl⟩ : ∃ f', f = f' + 1 := ⟨f - 1, by omega⟩
    obtain ⟨A, c, rfl⟩ := own_slice hrow
    have hstep := fparse_step a0.size f cur x y acc hline
    rw [hf] at hstep
    have hya : y.size ≤ a0.size := by omega
    have hya2 : (y.size : Int) ≤ (a0.size : Int) := by omega
    have hc0 := hsb.cell
    have hcl := hv.cell
    have hcr := hrb.cell
    have hce := heb.cell
    have hfl := hv.frozen
    have hfr := hrb.frozen
    have hfe := heb.frozen
    have hWk := Lib.hid (⟨hsb, hrb, heb, hib, hbel, hv, hrow⟩ : Boxed W w.heap.size 9 (.string a0) ∧ Boxed W (w.heap.size + 2) 9 (.string ⟨#[]⟩) ∧ Boxed W (w.heap.size + 3) 23 (.int .i64 0) ∧ (∃ u, Boxed W (w.heap.size + 4) 9 u) ∧ Below w.heap.size w W ∧ Boxed W (w.heap.size + 1) 46 (.slice A acc.length c) ∧ W.ownsRow w.heap.size 69 2 (.slice A acc.length c) acc.length (flatV acc))
    clear hsb hrb heb hib hbel hv hrow hf hbt' hbox'
    have hszH := Lib.hid (⟨hsz, hcf, hlen, hya⟩ : cur.size = x.size + y.size + 2 ∧ cur.size < f + 1 ∧ acc.length + cur.size ≤ a0.size ∧ y.size ≤ a0.size)
    clear hsz hcf hlen hline
    by_cases hhead : 8000 < (a0.size : Int) - (y.size : Int)
    · rw [if_pos (by omega)] at hstep
      have hst := Lib.hid hstep
      have hd := decide_eq_true hhead
      clear hstep hhead hya
      gi_wp2
      obtain ⟨hsb, hrb, heb, hib, hbel, hv, hrow⟩ := hWk.out
      exact ⟨KeepsFrom.refl _ _, ⟨.inl ⟨rfl, hst.out, ⟨_, hv⟩, hrb, heb⟩, hsb, hbel⟩⟩
    · rw [if_neg (by omega)] at hstep
      have hd := decide_eq_false hhead
      clear hhead hya
      by_cases hx0 : x.data.toList = []
      · rw [if_pos hx0] at hstep
        have hst := Lib.hid hstep
        obtain rfl : x = ⟨#[]⟩ := Sp.ba_ext hx0
        clear hstep hx0
        obtain ⟨hsb, hrb, heb, hib, hbel, hv, hrow⟩ := hWk.out
        gi_wp2
        have hv2 := (((hv.set (.slice A acc.length c)).other (B' := w.heap.size + 2) (by omega) (.string y)).other (B' := w.heap.size + 3) (by omega) (.int .i64 0))
        have hr2 := (((hrb.other (B' := w.heap.size + 1) (by omega) (.slice A acc.length c)).set (.string y)).other (B' := w.heap.size + 3) (by omega) (.int .i64 0))
        have he2 := (((heb.other (B' := w.heap.size + 1) (by omega) (.slice A acc.length c)).other (B' := w.heap.size + 2) (by omega) (.string y)).set (.int .i64 0))
        have hs2 := (((hsb.other (B' := w.heap.size + 1) (by omega) (.slice A acc.length c)).other (B' := w.heap.size + 2) (by omega) (.string y)).other (B' := w.heap.size + 3) (by omega) (.int .i64 0))
        refine ⟨((((KeepsOthers.setCell _ _ _).trans (KeepsOthers.setCell _ _ _)).trans (KeepsOthers.setCell _ _ _)).from _), ⟨.inr ⟨rfl, ⟨_, hv2, ?_⟩, ?_, ?_⟩, hs2, ?_⟩⟩
        · rw [hst.out]
          exact row_set3 hrow hv hrb heb
        · rw [hst.out]
          show Boxed _ _ _ (.string (Sp.mk y.data.toList))
          rw [Sp.mk_self]
          exact hr2
        · rw [hst.out]
          exact he2
        · exact ((hbel.setCell (p := ⟨w.heap.size + 1, 0, none⟩) (Nat.le_add_right _ _) _).setCell (p := ⟨w.heap.size + 2, 0, none⟩) (Nat.le_add_right _ _) _).setCell (p := ⟨w.heap.size + 3, 0, none⟩) (Nat.le_add_right _ _) _
      · rw [if_neg hx0] at hstep
        have hne1 : ¬ x.toList = [] := by rw [Sp.tl]; exact hx0
        have hne2 : (x.toList == []) = false := by simpa using hne1
        have hxl : x.data.toList.length < 4294967281 := by rw [← Lib.size_eq]; have := hszH.out; omega
        have HF := Sp.pairF x.data.toList (x.data.toList.length + 1) hxl (by omega)
        rw [Sp.mk_self] at HF
        have HP0 := field_pair.calls _ x _ _ _ W (hG.below hWk.out.2.2.2.2.1) HF
        clear HF hxl hx0
        have hf31 : Fence.wide.fn 31 := trivial
        obtain ⟨pp, hpp⟩ : ∃ pp, pp = Sp.pairP x.data.toList := ⟨_, rfl⟩
        rw [← hpp] at hstep HP0
        clear hpp
        obtain ⟨q1, q2, q3⟩ := pp
        simp only at hstep HP0
        have HP := Lib.hid (CallsIn.inRound l (callsIn_wide.2 HP0) (n := 7))
        have hst := Lib.hid hstep
        clear hstep HP0
        obtain ⟨hsb, hrb, heb, hib, hbel, hv, hrow⟩ := hWk.out
        have hvH := Lib.hid hv
        have hrH := Lib.hid hrb
        have heH := Lib.hid heb
        clear hv hrb heb hcl hcr hce hfl hfr hfe
        cases q3 with
        | false =>
          gi_wp2_with (gi_at_call 31; refine HP.out.mono ?_; rintro e W1 ⟨rfl, hb1⟩; have hv1 := Lib.hid (bx_below hvH.out hb1); have hr1 := Lib.hid (bx_below hrH.out hb1); have he1 := Lib.hid (bx_below heH.out hb1); have hl1 := hv1.out.cell; have hl2 := hv1.out.frozen; have hl3 := hr1.out.cell; have hl4 := hr1.out.frozen; have hl5 := he1.out.cell; have hl6 := he1.out.frozen; have hz1 := hv1.out.lt; have hz2 := hr1.out.lt; have hz3 := he1.out.lt)
          have hR2 : R = ([], [], 180) := by simpa using hst.out
          have hlt := hbel.size
          have hrr := hrH.out
          have hee := heH.out
          have hvv := hvH.out
          have hss := bx_below hsb hb1
          have e1 := (((hv1.out.set (.slice none 0 0)).other (B' := w.heap.size + 2) (by omega) (.string ⟨#[]⟩)).other (B' := w.heap.size + 3) (by omega) (.int .i64 180)).alloc (Obj.cells #[Value.string (Sp.mk q1), Value.string (Sp.mk q2)] 69)
          have e2 := (((hr1.out.other (B' := w.heap.size + 1) (by omega) (.slice none 0 0)).set (.string ⟨#[]⟩)).other (B' := w.heap.size + 3) (by omega) (.int .i64 180)).alloc (Obj.cells #[Value.string (Sp.mk q1), Value.string (Sp.mk q2)] 69)
          have e3 := (((he1.out.other (B' := w.heap.size + 1) (by omega) (.slice none 0 0)).other (B' := w.heap.size + 2) (by omega) (.string ⟨#[]⟩)).set (.int .i64 180)).alloc (Obj.cells #[Value.string (Sp.mk q1), Value.string (Sp.mk q2)] 69)
          have e0 := (((hss.other (B' := w.heap.size + 1) (by omega) (.slice none 0 0)).other (B' := w.heap.size + 2) (by omega) (.string ⟨#[]⟩)).other (B' := w.heap.size + 3) (by omega) (.int .i64 180)).alloc (Obj.cells #[Value.string (Sp.mk q1), Value.string (Sp.mk q2)] 69)
          refine ⟨((((keeps_below hb1 _).trans ((KeepsOthers.setCell _ _ _).from _)).trans ((KeepsOthers.setCell _ _ _).from _)).trans ((KeepsOthers.setCell _ _ _).from _)).trans ((KeepsOthers.alloc _ _).from _), ⟨.inr ⟨rfl, ⟨_, e1, ?_⟩, ?_, ?_⟩, e0, ?_⟩⟩
          · rw [hR2]
            exact World.ownsRow_nil _ _ _ _
          · rw [hR2]
            exact e2
          · rw [hR2]
            exact e3
          · refine ((((hbel.trans (hb1.mono hbel.size)).setCell (p := ⟨w.heap.size + 1, 0, none⟩) (Nat.le_add_right _ _) _).setCell (p := ⟨w.heap.size + 2, 0, none⟩) (Nat.le_add_right _ _) _).setCell (p := ⟨w.heap.size + 3, 0, none⟩) (Nat.le_add_right _ _) _).alloc ?_ _
            have := hb1.size
            simp only [World.setCell, Array.size_modify]
            omega
        | true =>
          have hlH := Lib.hid (show acc.length + 1 ≤ 4294967281 by have := hszH.out; omega)
          gi_wp2_with (first | (gi_at_call 31; refine HP.out.mono ?_; rintro e W1 ⟨rfl, hb1⟩; have hv1 := Lib.hid (bx_below hvH.out hb1); have hl1 := hv1.out.cell; have hl2 := hv1.out.frozen; have hz1 := hv1.out.lt; have hb1 := Lib.hid hb1) | (gi_at_builtin; refine wpListIn_append_own _ rfl _ _ 46 rfl w.heap.size 69 i0 _ 2 32 Tryd.underlying46 hi hz0 hz1' hz2 rfl (by decide) _ _ _ rfl (((row_below hrow hb1.out).alloc _).alloc _) ⟨W1.heap.size + 1, 0, none⟩ 1 1 [.string (Sp.mk q1), .string (Sp.mk q2)] rfl rfl (cells_two _ _ _ _) (by simp [Value.oneCell']) (by have := hlH.out; unfold maxLen; omega) (by have := hlH.out; omega) (by have := hbel.size; have := hb1.out.size; simp; omega) ?_; intro v' w1 hown' hgrow _; obtain ⟨A', c', rfl⟩ := own_slice hown'; have hown' := Lib.hid hown'; have hv2 := Lib.hid (((hv1.out.alloc _).alloc _).kept hgrow (hvH.out.not_row (by decide) hrow)); have hgrow := Lib.hid hgrow; have hl3 := hv2.out.cell; have hl4 := hv2.out.frozen))
          have hR2 : Sp.fparse a0.size f y.data.toList (acc ++ [(q1, q2)]) = R := by simpa using hst.out.symm
          have hszz := hszH.out
          have hrowW1 := row_below hrow hb1.out
          have nr : ∀ {B t u}, Boxed W B t u → t ≠ 69 → Boxed w1 B t u := fun hb ht => (((bx_below hb hb1.out).alloc _).alloc _).kept hgrow.out (hb.not_row ht hrow)
          obtain ⟨u4, hu4⟩ := hib
          have g4 := nr hu4 (by decide)
          refine ⟨?_, ?_, ⟨⟨f, acc ++ [(q1, q2)], _, hR2, by omega, by simp only [List.length_append, List.length_singleton]; omega, hv2.out.set _, ?_⟩, bx_set (nr hsb (by decide)) _ (by show w.heap.size ≠ w.heap.size + 1; omega) _, bx_set (nr hrH.out (by decide)) _ (by show w.heap.size + 2 ≠ w.heap.size + 1; omega) _, bx_set (nr heH.out (by decide)) _ (by show w.heap.size + 3 ≠ w.heap.size + 1; omega) _, ⟨u4, bx_set g4 _ (by show w.heap.size + 4 ≠ w.heap.size + 1; omega) _⟩, ?_⟩⟩
          · refine ((((keeps_below hb1.out _).trans ((KeepsOthers.alloc _ _).from _)).trans ((KeepsOthers.alloc _ _).from _)).trans ((KeepsOthers.of_grownBy hgrow.out fun j o ej hj => ?_).from _)).trans ((KeepsOthers.setCell _ _ _).from _)
            obtain ⟨cells, hcell⟩ := own_typed ((hrowW1.alloc (Obj.cells #[Value.string (Sp.mk q1), Value.string (Sp.mk q2)] 69)).alloc (Obj.cells #[Value.string (Sp.mk q1), Value.string (Sp.mk q2)] 69)) j ej
            rw [hcell] at hj
            cases hj
            rfl
          · exact (Below.heap_setCell _ _ _ _ (by show w.heap.size + 4 ≠ w.heap.size + 1; omega)).trans ((show w1.heap[w.heap.size + 4]? = _ from g4).trans (show W.heap[w.heap.size + 4]? = _ from hu4).symm)
          · have h9 := row_far (x := .slice A' (acc.length + 1) c') hown'.out hv2.out (by decide)
            rw [show (acc ++ [(q1, q2)]).length = acc.length + 1 from by simp, show flatV (acc ++ [(q1, q2)]) = flatV acc ++ [.string (Sp.mk q1), .string (Sp.mk q2)] from by simp [flatV]]
            exact h9
          · refine ((((hbel.trans (hb1.out.mono hbel.size)).alloc (Nat.le_trans hbel.size hb1.out.size) _).alloc ?_ _).grown hgrow.out ?_ (fun k ek => own_base hrow k ek)).setCell (p := ⟨w.heap.size + 1, 0, none⟩) (Nat.le_add_right _ _) _
            · have := hbel.size; have := hb1.out.size; simp; omega
            · have := hbel.size; have := hb1.out.size; simp; omega
  case done =>
    intro D cur W hD hcur hb hK
    obtain ⟨⟨f, acc, v, hf, hcf, hlen, hv, hrow⟩, hsb, hrb, heb, hib, hbel⟩ := hb
    obtain ⟨f, rfl⟩ : ∃ f', f = f' + 1 := ⟨f - 1, by omega⟩
    have hend := (fparse_stop a0.size f cur acc hcur).symm.trans hf
    obtain ⟨A, c, rfl⟩ := own_slice hrow
    have hc0 := hsb.cell
    have hcl := hv.cell
    have hcr := hrb.cell
    have hce := heb.cell
    have hflz := hv.frozen
    have hfr := hrb.frozen
    have hfe := heb.frozen
    have hd5 : w.heap.size + 5 ≤ D := by rw [← hsz'.out]; exact hD
    have hWk := Lib.hid (⟨hsb, hrb, heb, hbel, hv⟩ : Boxed W w.heap.size 9 (.string a0) ∧ Boxed W (w.heap.size + 2) 9 (.string ⟨#[]⟩) ∧ Boxed W (w.heap.size + 3) 23 (.int .i64 0) ∧ Below w.heap.size w W ∧ Boxed W (w.heap.size + 1) 46 (.slice A acc.length c))
    have hfB := Lib.hid (hR'.out.symm.trans hend.symm)
    have hKH := Lib.hid hK
    clear hf hlen hcur hbt' hbox' hsb hrb heb hib hbel hv hrow hend hK hR' hcf
    by_cases h8 : 8000 < (a0.size : Int)
    · have hdd := decide_eq_true h8
      gi_wp2
      obtain ⟨hsb, hrb, heb, hbel, hv⟩ := hWk.out
      have hK3 := (((KeepsOthers.setCell W ⟨w.heap.size + 1, 0, none⟩ (.slice none 0 0)).trans (KeepsOthers.setCell _ ⟨w.heap.size + 2, 0, none⟩ (.string ⟨#[]⟩))).trans (KeepsOthers.setCell _ ⟨w.heap.size + 3, 0, none⟩ (.int .i64 2))).same D _ hKH.out rfl
      refine ⟨by simp, .inl ⟨_, _, rfl, run_takeDeferred hK3, ?_⟩⟩
      exact parse_leaves rfl rfl rfl hK3 (((hv.set _).other (by omega) _).other (by omega) _) (((hrb.other (by omega) _).set _).other (by omega) _) (((heb.other (by omega) _).other (by omega) _).set _) (World.ownsRow_nil _ _ _ _) (((hbel.setCell (p := ⟨w.heap.size + 1, 0, none⟩) (Nat.le_add_right _ _) _).setCell (p := ⟨w.heap.size + 2, 0, none⟩) (Nat.le_add_right _ _) _).setCell (p := ⟨w.heap.size + 3, 0, none⟩) (Nat.le_add_right _ _) _) hd5 (hfB.out.trans (by rw [if_pos (by omega)])) rfl
    · have hdd := decide_eq_false h8
      gi_wp2
      obtain ⟨hsb, hrb, heb, hbel, hv⟩ := hWk.out
      have hK3 := (((KeepsOthers.setCell W ⟨w.heap.size + 1, 0, none⟩ (.slice none 0 0)).trans (KeepsOthers.setCell _ ⟨w.heap.size + 2, 0, none⟩ (.string ⟨#[]⟩))).trans (KeepsOthers.setCell _ ⟨w.heap.size + 3, 0, none⟩ (.int .i64 180))).same D _ hKH.out rfl
      refine ⟨by simp, .inl ⟨_, _, rfl, run_takeDeferred hK3, ?_⟩⟩
      exact parse_leaves rfl rfl rfl hK3 (((hv.set _).other (by omega) _).other (by omega) _) (((hrb.other (by omega) _).set _).other (by omega) _) (((heb.other (by omega) _).other (by omega) _).set _) (World.ownsRow_nil _ _ _ _) (((hbel.setCell (p := ⟨w.heap.size + 1, 0, none⟩) (Nat.le_add_right _ _) _).setCell (p := ⟨w.heap.size + 2, 0, none⟩) (Nat.le_add_right _ _) _).setCell (p := ⟨w.heap.size + 3, 0, none⟩) (Nat.le_add_right _ _) _) hd5 (hfB.out.trans (by rw [if_neg (by omega)])) rfl
  case stop =>
    intro D c W hD hl hK
    obtain ⟨hhow, hsb, hbel⟩ := hl
    have hd5 : w.heap.size + 5 ≤ D := by rw [← hsz'.out]; exact hD
    have hKH := Lib.hid hK
    clear hK hbt' hbox'
    rcases hhow with ⟨rfl, hfin, ⟨v, hv⟩, hrb, heb⟩ | ⟨rfl, ⟨v, hv, hrow⟩, hrb, heb⟩
    · have hc0 := hsb.cell
      have hcl := hv.cell
      have hcr := hrb.cell
      have hce := heb.cell
      have hflz := hv.frozen
      have hfr := hrb.frozen
      have hfe := heb.frozen
      have hWk := Lib.hid (⟨hsb, hrb, heb, hbel, hv⟩ : Boxed W w.heap.size 9 (.string a0) ∧ Boxed W (w.heap.size + 2) 9 (.string ⟨#[]⟩) ∧ Boxed W (w.heap.size + 3) 23 (.int .i64 0) ∧ Below w.heap.size w W ∧ Boxed W (w.heap.size + 1) 46 v)
      have hfB := Lib.hid (hR'.out.symm.trans hfin)
      clear hfin hsb hrb heb hbel hv hR'
      by_cases h8 : 8000 < (a0.size : Int)
      · have hdd := decide_eq_true h8
        gi_wp2
        obtain ⟨hsb, hrb, heb, hbel, hv⟩ := hWk.out
        have hK3 := (((KeepsOthers.setCell W ⟨w.heap.size + 1, 0, none⟩ (.slice none 0 0)).trans (KeepsOthers.setCell _ ⟨w.heap.size + 2, 0, none⟩ (.string ⟨#[]⟩))).trans (KeepsOthers.setCell _ ⟨w.heap.size + 3, 0, none⟩ (.int .i64 2))).same D _ hKH.out rfl
        refine ⟨by simp, .inl ⟨_, _, rfl, run_takeDeferred hK3, ?_⟩⟩
        exact parse_leaves rfl rfl rfl hK3 (((hv.set _).other (by omega) _).other (by omega) _) (((hrb.other (by omega) _).set _).other (by omega) _) (((heb.other (by omega) _).other (by omega) _).set _) (World.ownsRow_nil _ _ _ _) (((hbel.setCell (p := ⟨w.heap.size + 1, 0, none⟩) (Nat.le_add_right _ _) _).setCell (p := ⟨w.heap.size + 2, 0, none⟩) (Nat.le_add_right _ _) _).setCell (p := ⟨w.heap.size + 3, 0, none⟩) (Nat.le_add_right _ _) _) hd5 (hfB.out.trans (by rw [if_pos (by omega)])) rfl
      · have hdd := decide_eq_false h8
        gi_wp2
        obtain ⟨hsb, hrb, heb, hbel, hv⟩ := hWk.out
        have hK3 := (((KeepsOthers.setCell W ⟨w.heap.size + 1, 0, none⟩ (.slice none 0 0)).trans (KeepsOthers.setCell _ ⟨w.heap.size + 2, 0, none⟩ (.string ⟨#[]⟩))).trans (KeepsOthers.setCell _ ⟨w.heap.size + 3, 0, none⟩ (.int .i64 180))).same D _ hKH.out rfl
        refine ⟨by simp, .inl ⟨_, _, rfl, run_takeDeferred hK3, ?_⟩⟩
        exact parse_leaves rfl rfl rfl hK3 (((hv.set _).other (by omega) _).other (by omega) _) (((hrb.other (by omega) _).set _).other (by omega) _) (((heb.other (by omega) _).other (by omega) _).set _) (World.ownsRow_nil _ _ _ _) (((hbel.setCell (p := ⟨w.heap.size + 1, 0, none⟩) (Nat.le_add_right _ _) _).setCell (p := ⟨w.heap.size + 2, 0, none⟩) (Nat.le_add_right _ _) _).setCell (p := ⟨w.heap.size + 3, 0, none⟩) (Nat.le_add_right _ _) _) hd5 (hfB.out.trans (by rw [if_neg (by omega)])) rfl
    · have hvH := Lib.hid hv
      have hrH := Lib.hid hrb
      have heH := Lib.hid heb
      clear hv hrb heb
      gi_wp2
      refine ⟨by simp, .inl ⟨_, _, rfl, run_takeDeferred hKH.out, ?_⟩⟩
      exact parse_leaves rfl rfl rfl hKH.out hvH.out hrH.out heH.out hrow hbel hd5 hR'.out.symm rfl
theorem field_Parse.calls (a0 : ByteArray) (r1 : List S69) (r2 : ByteArray) (r3 : Int) (w : World) (hG : Glob w) (h : field_Parse.f a0 = some (r1, r2, r3)) :
    Calls Tryd.prog 16 #[.string a0] w fun e w' => ∃ v0_ : Value, e = .returned (.tuple #[v0_, .string r2, .int .i64 r3]) ∧ Kd.R k69 69 w' w.heap.size (fun _ => True) v0_ r1 ∧ Below w.heap.size w w' := by
  unfold field_Parse.f at h
  split at h
  case isFalse => exact absurd h (by simp)
  rename_i hs
  have h2 := Option.some.inj h
  have := parse_in a0 w hG hs
  rw [h2] at this
  exact this
end Go.Proofs.YteonhdfjfjpbjaaDoor.O

/- Olen -/
namespace Go.Proofs.YteonhdfjfjpbjaaDoor.O
open Go.RowKit Go.Proofs.YteonhdfjfjpbjaaDoorW.PrintWords Go.Proofs.YteonhdfjfjpbjaaDoorW.PrintLast Go.Proofs.YteonhdfjfjpbjaaDoorW.PrintMore Go.Proofs.YteonhdfjfjpbjaaDoor.P Go.Proofs.YteonhdfjfjpbjaaDoor.B
set_option linter.unusedVariables false
set_option linter.unusedSimpArgs false

def Builder_Len.f (s0 : ByteArray) : Option (Int × ByteArray) := some ((s0.size : Int), s0)
theorem Builder_Len.calls (g : Nat) (s0_0 : ByteArray) (r1 : Int) (r2 : ByteArray) (w0 w : World) (hI : IsS35 w0 w g s0_0) (hB : Below w0.heap.size w0 w) (h : Builder_Len.f s0_0 = some (r1, r2)) :
    Calls Tryd.prog 14 #[.pointer (some ⟨g, 0, none⟩)] w fun e w' => e = .returned (.int .i64 r1) ∧ IsS35 w0 w' g r2 ∧ Below w0.heap.size w0 w' ∧ KeepB 5 w w' g := by
  obtain ⟨rfl, rfl⟩ : (s0_0.size : Int) = r1 ∧ s0_0 = r2 := by simpa [Builder_Len.f] using h
  refine (Tryd.Builder_Len_f w0.heap.size g _ w hI).mono ?_
  rintro e w' ⟨rfl, rfl⟩
  rw [cells_len]
  exact ⟨rfl, hI, hB, ⟨by first | exact Lib.OthersKept.refl _ _ _ | exact ⟨fun _ _ h _ _ => h⟩ | (intro k o hk _ _; exact hk)⟩⟩
end Go.Proofs.YteonhdfjfjpbjaaDoor.O

/- Px13 -/
namespace Go.Proofs.YteonhdfjfjpbjaaDoor.P
open Go.Proofs.YteonhdfjfjpbjaaDoor.B
open Go.RowKit Go.Proofs.YteonhdfjfjpbjaaDoorW.PrintWords Go.Proofs.YteonhdfjfjpbjaaDoorW.PrintLast Go.Proofs.YteonhdfjfjpbjaaDoorW.PrintMore
attribute [local go_sem] str_leq str_gtr str_geq max2_int min2_int max_two min_two max_three min_three max_four min_four   -- for this text's walks alone
set_option linter.unusedVariables false
set_option linter.unusedSimpArgs false

open Go.Proofs.YteonhdfjfjpbjaaDoor.O
/-! ### chunk_Decode: function 7 -/
mutual
def chunk_Decode.l0 : Nat → ByteArray → ByteArray → Option (ByteArray × ByteArray × Int)
  | 0, _, _ => none
  | k + 1, x0, x155000 => (strings_Cut.f x0 (⟨#[13, 10]⟩ : ByteArray)).bind fun bt155 => ((chunk_size.f k bt155.1).bind fun bt158 => (if bt155.2.2 = true then (chunk_Decode.j1 k bt155.2.1 bt158.1 (!bt158.2) x155000) else (chunk_Decode.j1 k bt155.2.1 bt158.1 true x155000)))
def chunk_Decode.j1 : Nat → ByteArray → Int → Bool → ByteArray → Option (ByteArray × ByteArray × Int)
  | 0, _, _, _, _ => none
  | k + 1, x7, x9, x25, x155000 => if x25 = true then (some ((⟨#[]⟩ : ByteArray), (⟨#[]⟩ : ByteArray), 190)) else (if x9 = 0 then ((field_Parse.f x7).bind fun bt168 => (if bt168.2.2 = 0 then ((Builder_String.f x155000).bind fun bt173 => (some (bt173.1, bt168.2.1, 0))) else (some ((⟨#[]⟩ : ByteArray), (⟨#[]⟩ : ByteArray), 190)))) else ((Builder_Len.f x155000).bind fun bt160 => ((chunk_part.f x7 x9 bt160.1).bind fun bt162 => (if bt162.2.2 = 0 then ((Builder_WriteString.f bt160.2 bt162.1).bind fun bt165 => (chunk_Decode.l0 k bt162.2.1 bt165.2.2)) else (some ((⟨#[]⟩ : ByteArray), (⟨#[]⟩ : ByteArray), bt162.2.2))))))
end
def chunk_Decode.f (k : Nat) (a0 : ByteArray) : Option (ByteArray × ByteArray × Int) := chunk_Decode.l0 k a0 (⟨#[]⟩ : ByteArray)
theorem chunk_Decode.mono_l : ∀ k, (∀ y0 y1, LeO (chunk_Decode.l0 k y0 y1) (chunk_Decode.l0 (k + 1) y0 y1)) ∧ (∀ y0 y1 y2 y3, LeO (chunk_Decode.j1 k y0 y1 y2 y3) (chunk_Decode.j1 (k + 1) y0 y1 y2 y3))
  | 0 => ⟨fun _ _ r h => by simp [chunk_Decode.l0] at h, fun _ _ _ _ r h => by simp [chunk_Decode.j1] at h⟩
  | k + 1 => by
    obtain ⟨ih0, ih1⟩ := chunk_Decode.mono_l k
    refine ⟨?_, ?_⟩
    · intro y0 y1
      unfold chunk_Decode.l0
      repeat' first
      | (with_reducible exact ih0 _ _)
      | (with_reducible exact ih1 _ _ _ _)
      | (with_reducible exact chunk_size.mono _ _)
      | (with_reducible exact LeO.refl _)
      | (with_reducible exact LeO.none _)
      | (with_reducible refine LeO.ite ?_ ?_)
      | (with_reducible refine LeO.bind ?_ (fun _ => ?_))
      | exact ih0 _ _
      | exact ih1 _ _ _ _
      | exact chunk_size.mono _ _
      | exact LeO.none _
      | refine LeO.ite ?_ ?_
      | refine LeO.bind ?_ (fun _ => ?_)
    · intro y0 y1 y2 y3
      unfold chunk_Decode.j1
      repeat' first
      | (with_reducible exact ih0 _ _)
      | (with_reducible exact ih1 _ _ _ _)
      | (with_reducible exact chunk_size.mono _ _)
      | (with_reducible exact LeO.refl _)
      | (with_reducible exact LeO.none _)
      | (with_reducible refine LeO.ite ?_ ?_)
      | (with_reducible refine LeO.bind ?_ (fun _ => ?_))
      | exact ih0 _ _
      | exact ih1 _ _ _ _
      | exact chunk_size.mono _ _
      | exact LeO.none _
      | refine LeO.ite ?_ ?_
      | refine LeO.bind ?_ (fun _ => ?_)
theorem chunk_Decode.mono : ∀ a0 k, LeO (chunk_Decode.f k a0) (chunk_Decode.f (k + 1) a0) := by
  intro a0 k
  obtain ⟨ih0, ih1⟩ := chunk_Decode.mono_l k
  unfold chunk_Decode.f
  repeat' first
      | (with_reducible exact ih0 _ _)
      | (with_reducible exact ih1 _ _ _ _)
      | (with_reducible exact chunk_size.mono _ _)
      | (with_reducible exact LeO.refl _)
      | (with_reducible exact LeO.none _)
      | (with_reducible refine LeO.ite ?_ ?_)
      | (with_reducible refine LeO.bind ?_ (fun _ => ?_))
      | exact ih0 _ _
      | exact ih1 _ _ _ _
      | exact chunk_size.mono _ _
      | exact LeO.none _
      | refine LeO.ite ?_ ?_
      | refine LeO.bind ?_ (fun _ => ?_)
set_option maxHeartbeats 8000000 in
set_option maxRecDepth 100000 in
theorem chunk_Decode.calls (k : Nat) (a0 : ByteArray) (r1 : ByteArray) (r2 : ByteArray) (r3 : Int) (w : World) (hG : Glob w) (h : chunk_Decode.f k a0 = some (r1, r2, r3)) :
    Calls Tryd.prog 7 #[.string a0] w fun e w' => e = .returned (.tuple #[.string r1, .string r2, .int .i64 r3]) ∧ Below w.heap.size w w' := by
  have hu35 := Tryd.underlying35
  have HB := Aside0.mk (Below.refl w.heap.size w)
  have hGA := Aside0.mk hG
  clear hG
  have H : (chunk_Decode.l0 k a0 (⟨#[]⟩ : ByteArray)) = some (r1, r2, r3) := h
  clear h
  have H' := Aside0.mk H
  clear H
  go_enter Tryd.func7, Tryd.ntmps7
  go_wp2_with (first | ((with_reducible refine gate_dst (N := 5) rfl ?_); refine box_event ?hg (N := 5) ?hd (cs := #[.pointer none, .slice none 0 0]) (t := 35) ?hr ?_; (case hd => rfl); (case hg => rfl); (case hr => first | (go_simp; done) | (go_simp; rfl)); intro gb154 hg w2 hbox hb; have n0_ := Aside0.mk (below_step (by repeat (first | (with_reducible first | exact HB.out | apply below_alloc | apply pw_below_drewN | apply below_drew1) | exact HB.out)) hb); have n1_ := Aside0.mk ((by rw [hg]; exact (below_size (by repeat (first | (with_reducible first | exact HB.out | apply below_alloc | apply pw_below_drewN | apply below_drew1) | exact HB.out))) : w.heap.size ≤ gb154)); have n2_ := Aside0.mk ((by rw [hg]; exact (below_size (by repeat (first | (with_reducible first | exact HB.out | apply below_alloc | apply pw_below_drewN | apply below_drew1) | exact HB.out))) : w.heap.size ≤ gb154)); have n3_ := Aside0.mk ((show IsS35 w w2 gb154 (⟨#[]⟩ : ByteArray) from IsS35.new hbox (by rw [hg]; exact (below_size (by repeat (first | (with_reducible first | exact HB.out | apply below_alloc | apply pw_below_drewN | apply below_drew1) | exact HB.out)))))); clear HB; have HB := n0_; have GW154 := n1_; have GE154 := n2_; have HI154 := n3_; clear n0_ n1_ n2_ n3_; clear hb hbox hg))
  try (refine wp_scope_straight ?_; go_wp2_with (first | ((with_reducible refine gate_dst (N := 5) rfl ?_); refine box_event ?hg (N := 5) ?hd (cs := #[.pointer none, .slice none 0 0]) (t := 35) ?hr ?_; (case hd => rfl); (case hg => rfl); (case hr => first | (go_simp; done) | (go_simp; rfl)); intro gb154 hg w2 hbox hb; have n0_ := Aside0.mk (below_step (by repeat (first | (with_reducible first | exact HB.out | apply below_alloc | apply pw_below_drewN | apply below_drew1) | exact HB.out)) hb); have n1_ := Aside0.mk ((by rw [hg]; exact (below_size (by repeat (first | (with_reducible first | exact HB.out | apply below_alloc | apply pw_below_drewN | apply below_drew1) | exact HB.out))) : w.heap.size ≤ gb154)); have n2_ := Aside0.mk ((by rw [hg]; exact (below_size (by repeat (first | (with_reducible first | exact HB.out | apply below_alloc | apply pw_below_drewN | apply below_drew1) | exact HB.out))) : w.heap.size ≤ gb154)); have n3_ := Aside0.mk ((show IsS35 w w2 gb154 (⟨#[]⟩ : ByteArray) from IsS35.new hbox (by rw [hg]; exact (below_size (by repeat (first | (with_reducible first | exact HB.out | apply below_alloc | apply pw_below_drewN | apply below_drew1) | exact HB.out)))))); clear HB; have HB := n0_; have GW154 := n1_; have GE154 := n2_; have HI154 := n3_; clear n0_ n1_ n2_ n3_; clear hb hbox hg)))
  try (with_reducible apply wp_label; go_wp2_with (first | ((with_reducible refine gate_dst (N := 5) rfl ?_); refine box_event ?hg (N := 5) ?hd (cs := #[.pointer none, .slice none 0 0]) (t := 35) ?hr ?_; (case hd => rfl); (case hg => rfl); (case hr => first | (go_simp; done) | (go_simp; rfl)); intro gb154 hg w2 hbox hb; have n0_ := Aside0.mk (below_step (by repeat (first | (with_reducible first | exact HB.out | apply below_alloc | apply pw_below_drewN | apply below_drew1) | exact HB.out)) hb); have n1_ := Aside0.mk ((by rw [hg]; exact (below_size (by repeat (first | (with_reducible first | exact HB.out | apply below_alloc | apply pw_below_drewN | apply below_drew1) | exact HB.out))) : w.heap.size ≤ gb154)); have n2_ := Aside0.mk ((by rw [hg]; exact (below_size (by repeat (first | (with_reducible first | exact HB.out | apply below_alloc | apply pw_below_drewN | apply below_drew1) | exact HB.out))) : w.heap.size ≤ gb154)); have n3_ := Aside0.mk ((show IsS35 w w2 gb154 (⟨#[]⟩ : ByteArray) from IsS35.new hbox (by rw [hg]; exact (below_size (by repeat (first | (with_reducible first | exact HB.out | apply below_alloc | apply pw_below_drewN | apply below_drew1) | exact HB.out)))))); clear HB; have HB := n0_; have GW154 := n1_; have GE154 := n2_; have HI154 := n3_; clear n0_ n1_ n2_ n3_; clear hb hbox hg)))
  first | go_loopg [0] k (fun kq v0 w' => ∃ (x0_1 : ByteArray) (x155000_1 : ByteArray), v0 = .string x0_1 ∧ Aside0 (chunk_Decode.l0 kq x0_1 x155000_1 = some (r1, r2, r3)) ∧ Aside0 (kq ≤ k) ∧ Aside0 (IsS35 w w' gb154 x155000_1) ∧ Aside0 (Below w.heap.size w w')) | (go_simp; go_loopg [0] k (fun kq v0 w' => ∃ (x0_1 : ByteArray) (x155000_1 : ByteArray), v0 = .string x0_1 ∧ Aside0 (chunk_Decode.l0 kq x0_1 x155000_1 = some (r1, r2, r3)) ∧ Aside0 (kq ≤ k) ∧ Aside0 (IsS35 w w' gb154 x155000_1) ∧ Aside0 (Below w.heap.size w w')))
  case atStart => exact ⟨(a0), ((⟨#[]⟩ : ByteArray)), (by first | rfl | (simp; done) | (simp [*]; done)), H', ⟨Nat.le_refl _⟩, ⟨by repeat (first | (with_reducible first | exact HI154.out | apply IsS35.alloc | apply IsS35.drewN | apply IsS35.drew) | exact HI154.out)⟩, ⟨by repeat (first | (with_reducible first | exact HB.out | apply below_alloc | apply pw_below_drewN | apply below_drew1 | refine below_set ?_ (IsS35.ge HI154.out)) | exact HB.out)⟩⟩
  case round =>
    clear H'
    try clear p2
    obtain ⟨x0_1, x155000_1, rfl, HA, HK1, HI154, HB⟩ := hrel
    cases gk with
    | zero => exact absurd HA.out (by simp [chunk_Decode.l0])
    | succ k1 =>
      have H := HA.out
      clear HA
      simp only [chunk_Decode.l0] at H
      replace H := Option.bind_eq_some_iff.mp H
      obtain ⟨⟨t155, t156, t157⟩, A30, H⟩ := H
      replace H : ((chunk_size.f k1 t155).bind fun bt158 => (if t157 = true then (chunk_Decode.j1 k1 t156 bt158.1 (!bt158.2) x155000_1) else (chunk_Decode.j1 k1 t156 bt158.1 true x155000_1))) = some (r1, r2, r3) := H
      have A3 := Aside0.mk A30
      clear A30
      replace H := Option.bind_eq_some_iff.mp H
      obtain ⟨⟨t158, t159⟩, A40, H⟩ := H
      replace H : (if t157 = true then (chunk_Decode.j1 k1 t156 t158 (!t159) x155000_1) else (chunk_Decode.j1 k1 t156 t158 true x155000_1)) = some (r1, r2, r3) := H
      have A4 := Aside0.mk A40
      clear A40
      have HC5 := Aside0.mk H
      clear H
      go_upto_region 4 with (first | ((with_reducible refine gate_callee (f := 11) rfl ?_); refine goesL_ (some 16) rfl rfl Tryd.func11 (by kernel_rfl) rfl #[.string x0_1, .string (⟨#[13, 10]⟩ : ByteArray)] rfl (by (try simp only [List.map_toArray, List.map_cons, List.map_nil]); first | done | rfl | (simp only [List.length_drop, List.length_take]; rfl)) ?_; (with_reducible refine (strings_Cut.calls x0_1 (⟨#[13, 10]⟩ : ByteArray) t155 t156 t157 _ ?side1 A3.out).mono ?_); (case side1 => exact Glob.below hGA.out (by repeat (first | (with_reducible first | exact HB.out | apply below_alloc | apply pw_below_drewN | apply below_drew1 | refine below_set ?_ (IsS35.ge HI154.out)) | exact HB.out))); rintro e w6 ⟨rfl, hb⟩; refine ⟨_, rfl, ?_⟩; have n0_ := Aside0.mk (IsS35.below (by repeat (first | (with_reducible first | exact HI154.out | apply IsS35.alloc | apply IsS35.drewN | apply IsS35.drew) | exact HI154.out)) hb); have n1_ := Aside0.mk (below_step (by repeat (first | (with_reducible first | exact HB.out | apply below_alloc | apply pw_below_drewN | apply below_drew1 | refine below_set ?_ (IsS35.ge HI154.out)) | exact HB.out)) hb); clear HI154; clear HB; have HI154 := n0_; have HB := n1_; clear n0_ n1_; (try clear hb); (try clear hb2); (try clear hk); (try clear hi)) | ((with_reducible refine gate_callee (f := 12) rfl ?_); refine goesL_ (some 22) rfl rfl Tryd.func12 (by kernel_rfl) rfl #[.string t155] rfl (by (try simp only [List.map_toArray, List.map_cons, List.map_nil]); first | done | rfl | (simp only [List.length_drop, List.length_take]; rfl)) ?_; (with_reducible refine (chunk_size.calls k1 t155 t158 t159 _ ?side1 A4.out).mono ?_); (case side1 => exact Glob.below hGA.out (by repeat (first | (with_reducible first | exact HB.out | apply below_alloc | apply pw_below_drewN | apply below_drew1 | refine below_set ?_ (IsS35.ge HI154.out)) | exact HB.out))); rintro e w7 ⟨rfl, hb⟩; refine ⟨_, rfl, ?_⟩; have n0_ := Aside0.mk (IsS35.below (by repeat (first | (with_reducible first | exact HI154.out | apply IsS35.alloc | apply IsS35.drewN | apply IsS35.drew) | exact HI154.out)) hb); have n1_ := Aside0.mk (below_step (by repeat (first | (with_reducible first | exact HB.out | apply below_alloc | apply pw_below_drewN | apply below_drew1 | refine below_set ?_ (IsS35.ge HI154.out)) | exact HB.out)) hb); clear HI154; clear HB; have HI154 := n0_; have HB := n1_; clear n0_ n1_; (try clear hb); (try clear hb2); (try clear hk); (try clear hi)))
      (try simp only [Act.put, List.setIfInBounds_toArray, List.set_cons_zero, List.set_cons_succ])
      go_cut [25] (fun v25 wc => ∃ (kq : Nat) (x25_4 : Bool), v25 = .bool x25_4 ∧ Aside0 (chunk_Decode.j1 kq t156 t158 x25_4 x155000_1 = some (r1, r2, r3)) ∧ Aside0 (kq ≤ k1) ∧ Aside0 (IsS35 w wc gb154 x155000_1) ∧ Aside0 (Below w.heap.size w wc))
      case first =>
        have H := HC5.out
        clear HC5
        by_cases c8 : t157 = true
        · subst c8
          have H1 : (chunk_Decode.j1 k1 t156 t158 (!t159) x155000_1) = some (r1, r2, r3) := by rw [if_pos rfl] at H; exact H
          clear H
          have H := H1
          clear H1
          have H' := Aside0.mk H
          clear H
          go_wp2
          try (refine wp_scope_straight ?_; go_wp2)
          try (with_reducible apply wp_label; go_wp2)
          go_meet
          case rel => exact ⟨_, (!t159), (by first | rfl | (simp; done) | (simp [*]; done)), H', ⟨by have := HK1.out; first | omega | exact Nat.le_refl _⟩, ⟨by repeat (first | (with_reducible first | exact HI154.out | apply IsS35.alloc | apply IsS35.drewN | apply IsS35.drew) | exact HI154.out)⟩, ⟨by repeat (first | (with_reducible first | exact HB.out | apply below_alloc | apply pw_below_drewN | apply below_drew1 | refine below_set ?_ (IsS35.ge HI154.out)) | exact HB.out)⟩⟩
        · replace c8 := Bool.eq_false_iff.mpr c8
          subst c8
          have H1 : (chunk_Decode.j1 k1 t156 t158 true x155000_1) = some (r1, r2, r3) := by rw [if_neg (show ¬ (false = true) by decide)] at H; exact H
          clear H
          have H := H1
          clear H1
          have H' := Aside0.mk H
          clear H
          go_wp2
          try (refine wp_scope_straight ?_; go_wp2)
          try (with_reducible apply wp_label; go_wp2)
          go_meet
          case rel => exact ⟨_, (true), (by first | rfl | (simp; done) | (simp [*]; done)), H', ⟨by have := HK1.out; first | omega | exact Nat.le_refl _⟩, ⟨by repeat (first | (with_reducible first | exact HI154.out | apply IsS35.alloc | apply IsS35.drewN | apply IsS35.drew) | exact HI154.out)⟩, ⟨by repeat (first | (with_reducible first | exact HB.out | apply below_alloc | apply pw_below_drewN | apply below_drew1 | refine below_set ?_ (IsS35.ge HI154.out)) | exact HB.out)⟩⟩
      case rest =>
        clear HC5
        try clear c1
        try clear p2
        try clear c7
        try clear c8
        try clear p2
        obtain ⟨kq, x25_4, rfl, HA, HJ4, HI154, HB⟩ := hcut
        cases kq with
        | zero => exact absurd HA.out (by simp [chunk_Decode.j1])
        | succ kj4 =>
          have H := HA.out
          clear HA
          simp only [chunk_Decode.j1] at H
          by_cases c9 : x25_4 = true
          · subst c9
            have H1 : (some ((⟨#[]⟩ : ByteArray), (⟨#[]⟩ : ByteArray), 190)) = some (r1, r2, r3) := by rw [if_pos rfl] at H; exact H
            clear H
            have H := H1
            clear H1
            simp only [Option.some.injEq, Prod.mk.injEq] at H
            obtain ⟨rfl, rfl, rfl⟩ := H
            go_wp2
            try (refine wp_scope_straight ?_; go_wp2)
            try (with_reducible apply wp_label; go_wp2)
            try dsimp only [Exit.noGoto]
            go_ret3
            exact ⟨by first | rfl | (simp [errW_none, errW_some, bne_nil_] <;> rfl) | (simp [*, errW_none, errW_some] <;> rfl), by repeat (first | (with_reducible first | exact HB.out | apply below_alloc | apply pw_below_drewN | apply below_drew1 | refine below_set ?_ (IsS35.ge HI154.out)) | exact HB.out)⟩
          · replace c9 := Bool.eq_false_iff.mpr c9
            subst c9
            have H1 : (if t158 = 0 then ((field_Parse.f t156).bind fun bt168 => (if bt168.2.2 = 0 then ((Builder_String.f x155000_1).bind fun bt173 => (some (bt173.1, bt168.2.1, 0))) else (some ((⟨#[]⟩ : ByteArray), (⟨#[]⟩ : ByteArray), 190)))) else ((Builder_Len.f x155000_1).bind fun bt160 => ((chunk_part.f t156 t158 bt160.1).bind fun bt162 => (if bt162.2.2 = 0 then ((Builder_WriteString.f bt160.2 bt162.1).bind fun bt165 => (chunk_Decode.l0 kj4 bt162.2.1 bt165.2.2)) else (some ((⟨#[]⟩ : ByteArray), (⟨#[]⟩ : ByteArray), bt162.2.2)))))) = some (r1, r2, r3) := by rw [if_neg (show ¬ (false = true) by decide)] at H; exact H
            clear H
            have H := H1
            clear H1
            by_cases c10 : t158 = 0
            · rw [if_pos c10] at H
              have c10b0 : (t158 == 0) = true := beq_iff_eq.mpr c10
              have c10b1 : (t158 != 0) = false := bne_eq_false_iff_eq.mpr c10
              clear c10
              replace H := Option.bind_eq_some_iff.mp H
              obtain ⟨⟨t168, t169, t170⟩, A110, H⟩ := H
              replace H : (if t170 = 0 then ((Builder_String.f x155000_1).bind fun bt173 => (some (bt173.1, t169, 0))) else (some ((⟨#[]⟩ : ByteArray), (⟨#[]⟩ : ByteArray), 190))) = some (r1, r2, r3) := H
              have A11 := Aside0.mk A110
              clear A110
              by_cases c12 : t170 = 0
              · rw [if_pos c12] at H
                have c12b0 : (t170 == 0) = true := beq_iff_eq.mpr c12
                have c12b1 : (t170 != 0) = false := bne_eq_false_iff_eq.mpr c12
                clear c12
                replace H := Option.bind_eq_some_iff.mp H
                obtain ⟨⟨t173, t174⟩, A130, H⟩ := H
                replace H : (some (t173, t169, 0)) = some (r1, r2, r3) := H
                have A13 := Aside0.mk A130
                clear A130
                simp only [Option.some.injEq, Prod.mk.injEq] at H
                obtain ⟨rfl, rfl, rfl⟩ := H
                go_wp2_with (first | ((with_reducible refine gate_callee (f := 16) rfl ?_); refine goesL_ (some 52) rfl rfl Tryd.func16 (by kernel_rfl) rfl #[.string t156] rfl (by (try simp only [List.map_toArray, List.map_cons, List.map_nil]); first | done | rfl | (simp only [List.length_drop, List.length_take]; rfl)) ?_; (with_reducible refine (field_Parse.calls t156 t168 t169 t170 _ ?side1 A11.out).mono ?_); (case side1 => exact Glob.below hGA.out (by repeat (first | (with_reducible first | exact HB.out | apply below_alloc | apply pw_below_drewN | apply below_drew1 | refine below_set ?_ (IsS35.ge HI154.out)) | exact HB.out))); rintro e w14 ⟨v171, rfl, ho0, hb⟩; refine ⟨_, rfl, ?_⟩; have n0_ := Aside0.mk (Kd.R_lower ho0 (below_size (by repeat (first | (with_reducible first | exact HB.out | apply below_alloc | apply pw_below_drewN | apply below_drew1 | refine below_set ?_ (IsS35.ge HI154.out)) | exact HB.out)))); have n1_ := Aside0.mk (IsS35.below (by repeat (first | (with_reducible first | exact HI154.out | apply IsS35.alloc | apply IsS35.drewN | apply IsS35.drew) | exact HI154.out)) hb); have n2_ := Aside0.mk (below_step (by repeat (first | (with_reducible first | exact HB.out | apply below_alloc | apply pw_below_drewN | apply below_drew1 | refine below_set ?_ (IsS35.ge HI154.out)) | exact HB.out)) hb); clear HI154; clear HB; have HO172 := n0_; have HI154 := n1_; have HB := n2_; clear n0_ n1_ n2_; (try clear hb); (try clear hb2); (try clear hk); (try clear hi); (try clear ho0)) | ((with_reducible refine gate_callee (f := 17) rfl ?_); refine goesL_ (some 58) rfl rfl Tryd.func17 (by kernel_rfl) rfl #[.pointer (some ⟨gb154, 0, none⟩)] rfl (by (try simp only [List.map_toArray, List.map_cons, List.map_nil]); first | done | rfl | (simp only [List.length_drop, List.length_take]; rfl)) ?_; (with_reducible refine (Builder_String.calls gb154 x155000_1 t173 t174 w _ ?side1 ?side2 A13.out).mono ?_); (case side1 => repeat (first | (with_reducible first | exact HI154.out | apply IsS35.alloc | apply IsS35.drewN | apply IsS35.drew) | exact HI154.out)); (case side2 => repeat (first | (with_reducible first | exact HB.out | apply below_alloc | apply pw_below_drewN | apply below_drew1 | refine below_set ?_ (IsS35.ge HI154.out)) | exact HB.out)); rintro e w15 ⟨rfl, hi, hb, hk⟩; refine ⟨_, rfl, ?_⟩; have n0_ := Aside0.mk (Kd.R_mono (R_keepB (IsS35.apart (show IsS35 w _ gb154 x155000_1 from by repeat (first | (with_reducible first | exact HI154.out | apply IsS35.alloc | apply IsS35.drewN | apply IsS35.drew) | exact HI154.out)) (by (with_reducible repeat (first | apply Kd.R_alloc | apply Kd.R_drewN | apply Kd.R_drew)); exact HO172.out) (by decide)) hk (by decide)) (fun _ h => h.1)); have n1_ := Aside0.mk (hb); have n2_ := Aside0.mk (hi); clear HO172; clear HB; clear HI154; have HO172 := n0_; have HB := n1_; have HI154 := n2_; clear n0_ n1_ n2_; (try clear hb); (try clear hk); (try clear hi)))
                try (refine wp_scope_straight ?_; go_wp2_with (first | ((with_reducible refine gate_callee (f := 16) rfl ?_); refine goesL_ (some 52) rfl rfl Tryd.func16 (by kernel_rfl) rfl #[.string t156] rfl (by (try simp only [List.map_toArray, List.map_cons, List.map_nil]); first | done | rfl | (simp only [List.length_drop, List.length_take]; rfl)) ?_; (with_reducible refine (field_Parse.calls t156 t168 t169 t170 _ ?side1 A11.out).mono ?_); (case side1 => exact Glob.below hGA.out (by repeat (first | (with_reducible first | exact HB.out | apply below_alloc | apply pw_below_drewN | apply below_drew1 | refine below_set ?_ (IsS35.ge HI154.out)) | exact HB.out))); rintro e w14 ⟨v171, rfl, ho0, hb⟩; refine ⟨_, rfl, ?_⟩; have n0_ := Aside0.mk (Kd.R_lower ho0 (below_size (by repeat (first | (with_reducible first | exact HB.out | apply below_alloc | apply pw_below_drewN | apply below_drew1 | refine below_set ?_ (IsS35.ge HI154.out)) | exact HB.out)))); have n1_ := Aside0.mk (IsS35.below (by repeat (first | (with_reducible first | exact HI154.out | apply IsS35.alloc | apply IsS35.drewN | apply IsS35.drew) | exact HI154.out)) hb); have n2_ := Aside0.mk (below_step (by repeat (first | (with_reducible first | exact HB.out | apply below_alloc | apply pw_below_drewN | apply below_drew1 | refine below_set ?_ (IsS35.ge HI154.out)) | exact HB.out)) hb); clear HI154; clear HB; have HO172 := n0_; have HI154 := n1_; have HB := n2_; clear n0_ n1_ n2_; (try clear hb); (try clear hb2); (try clear hk); (try clear hi); (try clear ho0)) | ((with_reducible refine gate_callee (f := 17) rfl ?_); refine goesL_ (some 58) rfl rfl Tryd.func17 (by kernel_rfl) rfl #[.pointer (some ⟨gb154, 0, none⟩)] rfl (by (try simp only [List.map_toArray, List.map_cons, List.map_nil]); first | done | rfl | (simp only [List.length_drop, List.length_take]; rfl)) ?_; (with_reducible refine (Builder_String.calls gb154 x155000_1 t173 t174 w _ ?side1 ?side2 A13.out).mono ?_); (case side1 => repeat (first | (with_reducible first | exact HI154.out | apply IsS35.alloc | apply IsS35.drewN | apply IsS35.drew) | exact HI154.out)); (case side2 => repeat (first | (with_reducible first | exact HB.out | apply below_alloc | apply pw_below_drewN | apply below_drew1 | refine below_set ?_ (IsS35.ge HI154.out)) | exact HB.out)); rintro e w15 ⟨rfl, hi, hb, hk⟩; refine ⟨_, rfl, ?_⟩; have n0_ := Aside0.mk (Kd.R_mono (R_keepB (IsS35.apart (show IsS35 w _ gb154 x155000_1 from by repeat (first | (with_reducible first | exact HI154.out | apply IsS35.alloc | apply IsS35.drewN | apply IsS35.drew) | exact HI154.out)) (by (with_reducible repeat (first | apply Kd.R_alloc | apply Kd.R_drewN | apply Kd.R_drew)); exact HO172.out) (by decide)) hk (by decide)) (fun _ h => h.1)); have n1_ := Aside0.mk (hb); have n2_ := Aside0.mk (hi); clear HO172; clear HB; clear HI154; have HO172 := n0_; have HB := n1_; have HI154 := n2_; clear n0_ n1_ n2_; (try clear hb); (try clear hk); (try clear hi))))
                try (with_reducible apply wp_label; go_wp2_with (first | ((with_reducible refine gate_callee (f := 16) rfl ?_); refine goesL_ (some 52) rfl rfl Tryd.func16 (by kernel_rfl) rfl #[.string t156] rfl (by (try simp only [List.map_toArray, List.map_cons, List.map_nil]); first | done | rfl | (simp only [List.length_drop, List.length_take]; rfl)) ?_; (with_reducible refine (field_Parse.calls t156 t168 t169 t170 _ ?side1 A11.out).mono ?_); (case side1 => exact Glob.below hGA.out (by repeat (first | (with_reducible first | exact HB.out | apply below_alloc | apply pw_below_drewN | apply below_drew1 | refine below_set ?_ (IsS35.ge HI154.out)) | exact HB.out))); rintro e w14 ⟨v171, rfl, ho0, hb⟩; refine ⟨_, rfl, ?_⟩; have n0_ := Aside0.mk (Kd.R_lower ho0 (below_size (by repeat (first | (with_reducible first | exact HB.out | apply below_alloc | apply pw_below_drewN | apply below_drew1 | refine below_set ?_ (IsS35.ge HI154.out)) | exact HB.out)))); have n1_ := Aside0.mk (IsS35.below (by repeat (first | (with_reducible first | exact HI154.out | apply IsS35.alloc | apply IsS35.drewN | apply IsS35.drew) | exact HI154.out)) hb); have n2_ := Aside0.mk (below_step (by repeat (first | (with_reducible first | exact HB.out | apply below_alloc | apply pw_below_drewN | apply below_drew1 | refine below_set ?_ (IsS35.ge HI154.out)) | exact HB.out)) hb); clear HI154; clear HB; have HO172 := n0_; have HI154 := n1_; have HB := n2_; clear n0_ n1_ n2_; (try clear hb); (try clear hb2); (try clear hk); (try clear hi); (try clear ho0)) | ((with_reducible refine gate_callee (f := 17) rfl ?_); refine goesL_ (some 58) rfl rfl Tryd.func17 (by kernel_rfl) rfl #[.pointer (some ⟨gb154, 0, none⟩)] rfl (by (try simp only [List.map_toArray, List.map_cons, List.map_nil]); first | done | rfl | (simp only [List.length_drop, List.length_take]; rfl)) ?_; (with_reducible refine (Builder_String.calls gb154 x155000_1 t173 t174 w _ ?side1 ?side2 A13.out).mono ?_); (case side1 => repeat (first | (with_reducible first | exact HI154.out | apply IsS35.alloc | apply IsS35.drewN | apply IsS35.drew) | exact HI154.out)); (case side2 => repeat (first | (with_reducible first | exact HB.out | apply below_alloc | apply pw_below_drewN | apply below_drew1 | refine below_set ?_ (IsS35.ge HI154.out)) | exact HB.out)); rintro e w15 ⟨rfl, hi, hb, hk⟩; refine ⟨_, rfl, ?_⟩; have n0_ := Aside0.mk (Kd.R_mono (R_keepB (IsS35.apart (show IsS35 w _ gb154 x155000_1 from by repeat (first | (with_reducible first | exact HI154.out | apply IsS35.alloc | apply IsS35.drewN | apply IsS35.drew) | exact HI154.out)) (by (with_reducible repeat (first | apply Kd.R_alloc | apply Kd.R_drewN | apply Kd.R_drew)); exact HO172.out) (by decide)) hk (by decide)) (fun _ h => h.1)); have n1_ := Aside0.mk (hb); have n2_ := Aside0.mk (hi); clear HO172; clear HB; clear HI154; have HO172 := n0_; have HB := n1_; have HI154 := n2_; clear n0_ n1_ n2_; (try clear hb); (try clear hk); (try clear hi))))
                try dsimp only [Exit.noGoto]
                go_ret3
                exact ⟨by first | rfl | (simp [errW_none, errW_some, bne_nil_] <;> rfl) | (simp [*, errW_none, errW_some] <;> rfl), by repeat (first | (with_reducible first | exact HB.out | apply below_alloc | apply pw_below_drewN | apply below_drew1 | refine below_set ?_ (IsS35.ge HI154.out)) | exact HB.out)⟩
              · rw [if_neg c12] at H
                have c12b0 : (t170 == 0) = false := beq_eq_false_iff_ne.mpr c12
                have c12b1 : (t170 != 0) = true := bne_iff_ne.mpr c12
                simp only [Option.some.injEq, Prod.mk.injEq] at H
                obtain ⟨rfl, rfl, rfl⟩ := H
                go_wp2_with (first | ((with_reducible refine gate_callee (f := 16) rfl ?_); refine goesL_ (some 52) rfl rfl Tryd.func16 (by kernel_rfl) rfl #[.string t156] rfl (by (try simp only [List.map_toArray, List.map_cons, List.map_nil]); first | done | rfl | (simp only [List.length_drop, List.length_take]; rfl)) ?_; (with_reducible refine (field_Parse.calls t156 t168 t169 t170 _ ?side1 A11.out).mono ?_); (case side1 => exact Glob.below hGA.out (by repeat (first | (with_reducible first | exact HB.out | apply below_alloc | apply pw_below_drewN | apply below_drew1 | refine below_set ?_ (IsS35.ge HI154.out)) | exact HB.out))); rintro e w16 ⟨v171, rfl, ho0, hb⟩; refine ⟨_, rfl, ?_⟩; have n0_ := Aside0.mk (Kd.R_lower ho0 (below_size (by repeat (first | (with_reducible first | exact HB.out | apply below_alloc | apply pw_below_drewN | apply below_drew1 | refine below_set ?_ (IsS35.ge HI154.out)) | exact HB.out)))); have n1_ := Aside0.mk (IsS35.below (by repeat (first | (with_reducible first | exact HI154.out | apply IsS35.alloc | apply IsS35.drewN | apply IsS35.drew) | exact HI154.out)) hb); have n2_ := Aside0.mk (below_step (by repeat (first | (with_reducible first | exact HB.out | apply below_alloc | apply pw_below_drewN | apply below_drew1 | refine below_set ?_ (IsS35.ge HI154.out)) | exact HB.out)) hb); clear HI154; clear HB; have HO172 := n0_; have HI154 := n1_; have HB := n2_; clear n0_ n1_ n2_; (try clear hb); (try clear hb2); (try clear hk); (try clear hi); (try clear ho0)))
                try (refine wp_scope_straight ?_; go_wp2_with (first | ((with_reducible refine gate_callee (f := 16) rfl ?_); refine goesL_ (some 52) rfl rfl Tryd.func16 (by kernel_rfl) rfl #[.string t156] rfl (by (try simp only [List.map_toArray, List.map_cons, List.map_nil]); first | done | rfl | (simp only [List.length_drop, List.length_take]; rfl)) ?_; (with_reducible refine (field_Parse.calls t156 t168 t169 t170 _ ?side1 A11.out).mono ?_); (case side1 => exact Glob.below hGA.out (by repeat (first | (with_reducible first | exact HB.out | apply below_alloc | apply pw_below_drewN | apply below_drew1 | refine below_set ?_ (IsS35.ge HI154.out)) | exact HB.out))); rintro e w16 ⟨v171, rfl, ho0, hb⟩; refine ⟨_, rfl, ?_⟩; have n0_ := Aside0.mk (Kd.R_lower ho0 (below_size (by repeat (first | (with_reducible first | exact HB.out | apply below_alloc | apply pw_below_drewN | apply below_drew1 | refine below_set ?_ (IsS35.ge HI154.out)) | exact HB.out)))); have n1_ := Aside0.mk (IsS35.below (by repeat (first | (with_reducible first | exact HI154.out | apply IsS35.alloc | apply IsS35.drewN | apply IsS35.drew) | exact HI154.out)) hb); have n2_ := Aside0.mk (below_step (by repeat (first | (with_reducible first | exact HB.out | apply below_alloc | apply pw_below_drewN | apply below_drew1 | refine below_set ?_ (IsS35.ge HI154.out)) | exact HB.out)) hb); clear HI154; clear HB; have HO172 := n0_; have HI154 := n1_; have HB := n2_; clear n0_ n1_ n2_; (try clear hb); (try clear hb2); (try clear hk); (try clear hi); (try clear ho0))))
                try (with_reducible apply wp_label; go_wp2_with (first | ((with_reducible refine gate_callee (f := 16) rfl ?_); refine goesL_ (some 52) rfl rfl Tryd.func16 (by kernel_rfl) rfl #[.string t156] rfl (by (try simp only [List.map_toArray, List.map_cons, List.map_nil]); first | done | rfl | (simp only [List.length_drop, List.length_take]; rfl)) ?_; (with_reducible refine (field_Parse.calls t156 t168 t169 t170 _ ?side1 A11.out).mono ?_); (case side1 => exact Glob.below hGA.out (by repeat (first | (with_reducible first | exact HB.out | apply below_alloc | apply pw_below_drewN | apply below_drew1 | refine below_set ?_ (IsS35.ge HI154.out)) | exact HB.out))); rintro e w16 ⟨v171, rfl, ho0, hb⟩; refine ⟨_, rfl, ?_⟩; have n0_ := Aside0.mk (Kd.R_lower ho0 (below_size (by repeat (first | (with_reducible first | exact HB.out | apply below_alloc | apply pw_below_drewN | apply below_drew1 | refine below_set ?_ (IsS35.ge HI154.out)) | exact HB.out)))); have n1_ := Aside0.mk (IsS35.below (by repeat (first | (with_reducible first | exact HI154.out | apply IsS35.alloc | apply IsS35.drewN | apply IsS35.drew) | exact HI154.out)) hb); have n2_ := Aside0.mk (below_step (by repeat (first | (with_reducible first | exact HB.out | apply below_alloc | apply pw_below_drewN | apply below_drew1 | refine below_set ?_ (IsS35.ge HI154.out)) | exact HB.out)) hb); clear HI154; clear HB; have HO172 := n0_; have HI154 := n1_; have HB := n2_; clear n0_ n1_ n2_; (try clear hb); (try clear hb2); (try clear hk); (try clear hi); (try clear ho0))))
                try dsimp only [Exit.noGoto]
                go_ret3
                exact ⟨by first | rfl | (simp [errW_none, errW_some, bne_nil_] <;> rfl) | (simp [*, errW_none, errW_some] <;> rfl), by repeat (first | (with_reducible first | exact HB.out | apply below_alloc | apply pw_below_drewN | apply below_drew1 | refine below_set ?_ (IsS35.ge HI154.out)) | exact HB.out)⟩
            · rw [if_neg c10] at H
              have c10b0 : (t158 == 0) = false := beq_eq_false_iff_ne.mpr c10
              have c10b1 : (t158 != 0) = true := bne_iff_ne.mpr c10
              replace H := Option.bind_eq_some_iff.mp H
              obtain ⟨⟨t160, t161⟩, A170, H⟩ := H
              replace H : ((chunk_part.f t156 t158 t160).bind fun bt162 => (if bt162.2.2 = 0 then ((Builder_WriteString.f t161 bt162.1).bind fun bt165 => (chunk_Decode.l0 kj4 bt162.2.1 bt165.2.2)) else (some ((⟨#[]⟩ : ByteArray), (⟨#[]⟩ : ByteArray), bt162.2.2)))) = some (r1, r2, r3) := H
              have A17 := Aside0.mk A170
              clear A170
              replace H := Option.bind_eq_some_iff.mp H
              obtain ⟨⟨t162, t163, t164⟩, A180, H⟩ := H
              replace H : (if t164 = 0 then ((Builder_WriteString.f t161 t162).bind fun bt165 => (chunk_Decode.l0 kj4 t163 bt165.2.2)) else (some ((⟨#[]⟩ : ByteArray), (⟨#[]⟩ : ByteArray), t164))) = some (r1, r2, r3) := H
              have A18 := Aside0.mk A180
              clear A180
              by_cases c19 : t164 = 0
              · rw [if_pos c19] at H
                have c19b0 : (t164 == 0) = true := beq_iff_eq.mpr c19
                have c19b1 : (t164 != 0) = false := bne_eq_false_iff_eq.mpr c19
                clear c19
                replace H := Option.bind_eq_some_iff.mp H
                obtain ⟨⟨t165, t166, t167⟩, A200, H⟩ := H
                replace H : (chunk_Decode.l0 kj4 t163 t167) = some (r1, r2, r3) := H
                have A20 := Aside0.mk A200
                clear A200
                have H' := Aside0.mk H
                clear H
                go_wp2_with (first | ((with_reducible refine gate_callee (f := 14) rfl ?_); refine goesL_ (some 39) rfl rfl Tryd.func14 (by kernel_rfl) rfl #[.pointer (some ⟨gb154, 0, none⟩)] rfl (by (try simp only [List.map_toArray, List.map_cons, List.map_nil]); first | done | rfl | (simp only [List.length_drop, List.length_take]; rfl)) ?_; (with_reducible refine (Builder_Len.calls gb154 x155000_1 t160 t161 w _ ?side1 ?side2 A17.out).mono ?_); (case side1 => repeat (first | (with_reducible first | exact HI154.out | apply IsS35.alloc | apply IsS35.drewN | apply IsS35.drew) | exact HI154.out)); (case side2 => repeat (first | (with_reducible first | exact HB.out | apply below_alloc | apply pw_below_drewN | apply below_drew1 | refine below_set ?_ (IsS35.ge HI154.out)) | exact HB.out)); rintro e w21 ⟨rfl, hi, hb, hk⟩; refine ⟨_, rfl, ?_⟩; have n0_ := Aside0.mk (hb); have n1_ := Aside0.mk (hi); clear HB; clear HI154; have HB := n0_; have HI154 := n1_; clear n0_ n1_; (try clear hb); (try clear hk); (try clear hi)) | ((with_reducible refine gate_callee (f := 13) rfl ?_); refine goesL_ (some 40) rfl rfl Tryd.func13 (by kernel_rfl) rfl #[.string t156, .int .i64 t158, .int .i64 t160] rfl (by (try simp only [List.map_toArray, List.map_cons, List.map_nil]); first | done | rfl | (simp only [List.length_drop, List.length_take]; rfl)) ?_; (with_reducible refine (chunk_part.calls t156 t158 t160 t162 t163 t164 _ A18.out).mono ?_); rintro e w' ⟨rfl, ⟨nd, rfl⟩⟩; refine ⟨_, rfl, ?_⟩) | ((with_reducible refine gate_callee (f := 15) rfl ?_); refine goesL_ (some 48) rfl rfl Tryd.func15 (by kernel_rfl) rfl #[.pointer (some ⟨gb154, 0, none⟩), .string t162] rfl (by (try simp only [List.map_toArray, List.map_cons, List.map_nil]); first | done | rfl | (simp only [List.length_drop, List.length_take]; rfl)) ?_; (with_reducible refine (Builder_WriteString.calls gb154 t161 t162 t165 t166 t167 w _ ?side1 ?side2 A20.out).mono ?_); (case side1 => repeat (first | (with_reducible first | exact HI154.out | apply IsS35.alloc | apply IsS35.drewN | apply IsS35.drew) | exact HI154.out)); (case side2 => repeat (first | (with_reducible first | exact HB.out | apply below_alloc | apply pw_below_drewN | apply below_drew1 | refine below_set ?_ (IsS35.ge HI154.out)) | exact HB.out)); rintro e w22 ⟨rfl, hi, hb, hk⟩; refine ⟨_, rfl, ?_⟩; have n0_ := Aside0.mk (hb); have n1_ := Aside0.mk (hi); clear HB; clear HI154; have HB := n0_; have HI154 := n1_; clear n0_ n1_; (try clear hb); (try clear hk); (try clear hi); (try simp only [errW_none, errW_some])))
                try (refine wp_scope_straight ?_; go_wp2_with (first | ((with_reducible refine gate_callee (f := 14) rfl ?_); refine goesL_ (some 39) rfl rfl Tryd.func14 (by kernel_rfl) rfl #[.pointer (some ⟨gb154, 0, none⟩)] rfl (by (try simp only [List.map_toArray, List.map_cons, List.map_nil]); first | done | rfl | (simp only [List.length_drop, List.length_take]; rfl)) ?_; (with_reducible refine (Builder_Len.calls gb154 x155000_1 t160 t161 w _ ?side1 ?side2 A17.out).mono ?_); (case side1 => repeat (first | (with_reducible first | exact HI154.out | apply IsS35.alloc | apply IsS35.drewN | apply IsS35.drew) | exact HI154.out)); (case side2 => repeat (first | (with_reducible first | exact HB.out | apply below_alloc | apply pw_below_drewN | apply below_drew1 | refine below_set ?_ (IsS35.ge HI154.out)) | exact HB.out)); rintro e w21 ⟨rfl, hi, hb, hk⟩; refine ⟨_, rfl, ?_⟩; have n0_ := Aside0.mk (hb); have n1_ := Aside0.mk (hi); clear HB; clear HI154; have HB := n0_; have HI154 := n1_; clear n0_ n1_; (try clear hb); (try clear hk); (try clear hi)) | ((with_reducible refine gate_callee (f := 13) rfl ?_); refine goesL_ (some 40) rfl rfl Tryd.func13 (by kernel_rfl) rfl #[.string t156, .int .i64 t158, .int .i64 t160] rfl (by (try simp only [List.map_toArray, List.map_cons, List.map_nil]); first | done | rfl | (simp only [List.length_drop, List.length_take]; rfl)) ?_; (with_reducible refine (chunk_part.calls t156 t158 t160 t162 t163 t164 _ A18.out).mono ?_); rintro e w' ⟨rfl, ⟨nd, rfl⟩⟩; refine ⟨_, rfl, ?_⟩) | ((with_reducible refine gate_callee (f := 15) rfl ?_); refine goesL_ (some 48) rfl rfl Tryd.func15 (by kernel_rfl) rfl #[.pointer (some ⟨gb154, 0, none⟩), .string t162] rfl (by (try simp only [List.map_toArray, List.map_cons, List.map_nil]); first | done | rfl | (simp only [List.length_drop, List.length_take]; rfl)) ?_; (with_reducible refine (Builder_WriteString.calls gb154 t161 t162 t165 t166 t167 w _ ?side1 ?side2 A20.out).mono ?_); (case side1 => repeat (first | (with_reducible first | exact HI154.out | apply IsS35.alloc | apply IsS35.drewN | apply IsS35.drew) | exact HI154.out)); (case side2 => repeat (first | (with_reducible first | exact HB.out | apply below_alloc | apply pw_below_drewN | apply below_drew1 | refine below_set ?_ (IsS35.ge HI154.out)) | exact HB.out)); rintro e w22 ⟨rfl, hi, hb, hk⟩; refine ⟨_, rfl, ?_⟩; have n0_ := Aside0.mk (hb); have n1_ := Aside0.mk (hi); clear HB; clear HI154; have HB := n0_; have HI154 := n1_; clear n0_ n1_; (try clear hb); (try clear hk); (try clear hi); (try simp only [errW_none, errW_some]))))
                try (with_reducible apply wp_label; go_wp2_with (first | ((with_reducible refine gate_callee (f := 14) rfl ?_); refine goesL_ (some 39) rfl rfl Tryd.func14 (by kernel_rfl) rfl #[.pointer (some ⟨gb154, 0, none⟩)] rfl (by (try simp only [List.map_toArray, List.map_cons, List.map_nil]); first | done | rfl | (simp only [List.length_drop, List.length_take]; rfl)) ?_; (with_reducible refine (Builder_Len.calls gb154 x155000_1 t160 t161 w _ ?side1 ?side2 A17.out).mono ?_); (case side1 => repeat (first | (with_reducible first | exact HI154.out | apply IsS35.alloc | apply IsS35.drewN | apply IsS35.drew) | exact HI154.out)); (case side2 => repeat (first | (with_reducible first | exact HB.out | apply below_alloc | apply pw_below_drewN | apply below_drew1 | refine below_set ?_ (IsS35.ge HI154.out)) | exact HB.out)); rintro e w21 ⟨rfl, hi, hb, hk⟩; refine ⟨_, rfl, ?_⟩; have n0_ := Aside0.mk (hb); have n1_ := Aside0.mk (hi); clear HB; clear HI154; have HB := n0_; have HI154 := n1_; clear n0_ n1_; (try clear hb); (try clear hk); (try clear hi)) | ((with_reducible refine gate_callee (f := 13) rfl ?_); refine goesL_ (some 40) rfl rfl Tryd.func13 (by kernel_rfl) rfl #[.string t156, .int .i64 t158, .int .i64 t160] rfl (by (try simp only [List.map_toArray, List.map_cons, List.map_nil]); first | done | rfl | (simp only [List.length_drop, List.length_take]; rfl)) ?_; (with_reducible refine (chunk_part.calls t156 t158 t160 t162 t163 t164 _ A18.out).mono ?_); rintro e w' ⟨rfl, ⟨nd, rfl⟩⟩; refine ⟨_, rfl, ?_⟩) | ((with_reducible refine gate_callee (f := 15) rfl ?_); refine goesL_ (some 48) rfl rfl Tryd.func15 (by kernel_rfl) rfl #[.pointer (some ⟨gb154, 0, none⟩), .string t162] rfl (by (try simp only [List.map_toArray, List.map_cons, List.map_nil]); first | done | rfl | (simp only [List.length_drop, List.length_take]; rfl)) ?_; (with_reducible refine (Builder_WriteString.calls gb154 t161 t162 t165 t166 t167 w _ ?side1 ?side2 A20.out).mono ?_); (case side1 => repeat (first | (with_reducible first | exact HI154.out | apply IsS35.alloc | apply IsS35.drewN | apply IsS35.drew) | exact HI154.out)); (case side2 => repeat (first | (with_reducible first | exact HB.out | apply below_alloc | apply pw_below_drewN | apply below_drew1 | refine below_set ?_ (IsS35.ge HI154.out)) | exact HB.out)); rintro e w22 ⟨rfl, hi, hb, hk⟩; refine ⟨_, rfl, ?_⟩; have n0_ := Aside0.mk (hb); have n1_ := Aside0.mk (hi); clear HB; clear HI154; have HB := n0_; have HI154 := n1_; clear n0_ n1_; (try clear hb); (try clear hk); (try clear hi); (try simp only [errW_none, errW_some]))))
                go_roundg kj4
                case measure => have := HK1.out; have := HJ4.out; omega
                case rel => exact ⟨(t163), (t167), (by first | rfl | (simp; done) | (simp [*]; done)), H', ⟨by have := HK1.out; have := HJ4.out; omega⟩, ⟨by repeat (first | (with_reducible first | exact HI154.out | apply IsS35.alloc | apply IsS35.drewN | apply IsS35.drew) | exact HI154.out)⟩, ⟨by repeat (first | (with_reducible first | exact HB.out | apply below_alloc | apply pw_below_drewN | apply below_drew1 | refine below_set ?_ (IsS35.ge HI154.out)) | exact HB.out)⟩⟩
              · rw [if_neg c19] at H
                have c19b0 : (t164 == 0) = false := beq_eq_false_iff_ne.mpr c19
                have c19b1 : (t164 != 0) = true := bne_iff_ne.mpr c19
                simp only [Option.some.injEq, Prod.mk.injEq] at H
                obtain ⟨rfl, rfl, rfl⟩ := H
                go_wp2_with (first | ((with_reducible refine gate_callee (f := 14) rfl ?_); refine goesL_ (some 39) rfl rfl Tryd.func14 (by kernel_rfl) rfl #[.pointer (some ⟨gb154, 0, none⟩)] rfl (by (try simp only [List.map_toArray, List.map_cons, List.map_nil]); first | done | rfl | (simp only [List.length_drop, List.length_take]; rfl)) ?_; (with_reducible refine (Builder_Len.calls gb154 x155000_1 t160 t161 w _ ?side1 ?side2 A17.out).mono ?_); (case side1 => repeat (first | (with_reducible first | exact HI154.out | apply IsS35.alloc | apply IsS35.drewN | apply IsS35.drew) | exact HI154.out)); (case side2 => repeat (first | (with_reducible first | exact HB.out | apply below_alloc | apply pw_below_drewN | apply below_drew1 | refine below_set ?_ (IsS35.ge HI154.out)) | exact HB.out)); rintro e w23 ⟨rfl, hi, hb, hk⟩; refine ⟨_, rfl, ?_⟩; have n0_ := Aside0.mk (hb); have n1_ := Aside0.mk (hi); clear HB; clear HI154; have HB := n0_; have HI154 := n1_; clear n0_ n1_; (try clear hb); (try clear hk); (try clear hi)) | ((with_reducible refine gate_callee (f := 13) rfl ?_); refine goesL_ (some 40) rfl rfl Tryd.func13 (by kernel_rfl) rfl #[.string t156, .int .i64 t158, .int .i64 t160] rfl (by (try simp only [List.map_toArray, List.map_cons, List.map_nil]); first | done | rfl | (simp only [List.length_drop, List.length_take]; rfl)) ?_; (with_reducible refine (chunk_part.calls t156 t158 t160 t162 t163 t164 _ A18.out).mono ?_); rintro e w' ⟨rfl, ⟨nd, rfl⟩⟩; refine ⟨_, rfl, ?_⟩))
                try (refine wp_scope_straight ?_; go_wp2_with (first | ((with_reducible refine gate_callee (f := 14) rfl ?_); refine goesL_ (some 39) rfl rfl Tryd.func14 (by kernel_rfl) rfl #[.pointer (some ⟨gb154, 0, none⟩)] rfl (by (try simp only [List.map_toArray, List.map_cons, List.map_nil]); first | done | rfl | (simp only [List.length_drop, List.length_take]; rfl)) ?_; (with_reducible refine (Builder_Len.calls gb154 x155000_1 t160 t161 w _ ?side1 ?side2 A17.out).mono ?_); (case side1 => repeat (first | (with_reducible first | exact HI154.out | apply IsS35.alloc | apply IsS35.drewN | apply IsS35.drew) | exact HI154.out)); (case side2 => repeat (first | (with_reducible first | exact HB.out | apply below_alloc | apply pw_below_drewN | apply below_drew1 | refine below_set ?_ (IsS35.ge HI154.out)) | exact HB.out)); rintro e w23 ⟨rfl, hi, hb, hk⟩; refine ⟨_, rfl, ?_⟩; have n0_ := Aside0.mk (hb); have n1_ := Aside0.mk (hi); clear HB; clear HI154; have HB := n0_; have HI154 := n1_; clear n0_ n1_; (try clear hb); (try clear hk); (try clear hi)) | ((with_reducible refine gate_callee (f := 13) rfl ?_); refine goesL_ (some 40) rfl rfl Tryd.func13 (by kernel_rfl) rfl #[.string t156, .int .i64 t158, .int .i64 t160] rfl (by (try simp only [List.map_toArray, List.map_cons, List.map_nil]); first | done | rfl | (simp only [List.length_drop, List.length_take]; rfl)) ?_; (with_reducible refine (chunk_part.calls t156 t158 t160 t162 t163 t164 _ A18.out).mono ?_); rintro e w' ⟨rfl, ⟨nd, rfl⟩⟩; refine ⟨_, rfl, ?_⟩)))
                try (with_reducible apply wp_label; go_wp2_with (first | ((with_reducible refine gate_callee (f := 14) rfl ?_); refine goesL_ (some 39) rfl rfl Tryd.func14 (by kernel_rfl) rfl #[.pointer (some ⟨gb154, 0, none⟩)] rfl (by (try simp only [List.map_toArray, List.map_cons, List.map_nil]); first | done | rfl | (simp only [List.length_drop, List.length_take]; rfl)) ?_; (with_reducible refine (Builder_Len.calls gb154 x155000_1 t160 t161 w _ ?side1 ?side2 A17.out).mono ?_); (case side1 => repeat (first | (with_reducible first | exact HI154.out | apply IsS35.alloc | apply IsS35.drewN | apply IsS35.drew) | exact HI154.out)); (case side2 => repeat (first | (with_reducible first | exact HB.out | apply below_alloc | apply pw_below_drewN | apply below_drew1 | refine below_set ?_ (IsS35.ge HI154.out)) | exact HB.out)); rintro e w23 ⟨rfl, hi, hb, hk⟩; refine ⟨_, rfl, ?_⟩; have n0_ := Aside0.mk (hb); have n1_ := Aside0.mk (hi); clear HB; clear HI154; have HB := n0_; have HI154 := n1_; clear n0_ n1_; (try clear hb); (try clear hk); (try clear hi)) | ((with_reducible refine gate_callee (f := 13) rfl ?_); refine goesL_ (some 40) rfl rfl Tryd.func13 (by kernel_rfl) rfl #[.string t156, .int .i64 t158, .int .i64 t160] rfl (by (try simp only [List.map_toArray, List.map_cons, List.map_nil]); first | done | rfl | (simp only [List.length_drop, List.length_take]; rfl)) ?_; (with_reducible refine (chunk_part.calls t156 t158 t160 t162 t163 t164 _ A18.out).mono ?_); rintro e w' ⟨rfl, ⟨nd, rfl⟩⟩; refine ⟨_, rfl, ?_⟩)))
                try dsimp only [Exit.noGoto]
                go_ret3
                exact ⟨by first | rfl | (simp [errW_none, errW_some, bne_nil_] <;> rfl) | (simp [*, errW_none, errW_some] <;> rfl), by repeat (first | (with_reducible first | exact HB.out | apply below_alloc | apply pw_below_drewN | apply below_drew1 | refine below_set ?_ (IsS35.ge HI154.out)) | exact HB.out)⟩

end Go.Proofs.YteonhdfjfjpbjaaDoor.P

/- Ofmt -/
namespace Go.Proofs.YteonhdfjfjpbjaaDoor.O
open Go.RowKit Go.Proofs.YteonhdfjfjpbjaaDoorW.PrintWords Go.Proofs.YteonhdfjfjpbjaaDoorW.PrintLast Go.Proofs.YteonhdfjfjpbjaaDoorW.PrintMore
set_option linter.unusedVariables false
set_option linter.unusedSimpArgs false

def dgI (n : Int) : Int := if n < 10 then 48 + n else 87 + n
def hxL : Nat → Int → List Int → List Int
  | 0, _, t => t
  | f + 1, u, t => if u ≥ 16 then hxL f (u / 16) (dgI (u % 16) :: t) else dgI u :: t
def digs : ByteArray := ⟨#[48, 49, 50, 51, 52, 53, 54, 55, 56, 57, 97, 98, 99, 100, 101, 102, 103, 104, 105, 106, 107, 108, 109, 110, 111, 112, 113, 114, 115, 116, 117, 118, 119, 120, 121, 122]⟩
theorem digs_at (n : Int) (h0 : 0 ≤ n) (h1 : n < 16) : bt digs n = dgI n := by
  obtain ⟨a, rfl⟩ := Int.eq_ofNat_of_zero_le h0
  have key : ∀ a : Fin 16, bt digs ((a.val : Nat) : Int) = dgI ((a.val : Nat) : Int) := by decide +kernel
  exact key ⟨a, by omega⟩
theorem and15 (x : Int) (h0 : 0 ≤ x) (h1 : x < 18446744073709551616) : Go.bits .and .u64 x 15 = x % 16 := by
  obtain ⟨a, rfl⟩ := Int.eq_ofNat_of_zero_le h0
  have ha : a < 2 ^ 64 := by omega
  unfold Go.bits
  simp only
  rw [BitVec.toNat_and, show (BitVec.ofInt IntKind.u64.bits (a : Int)).toNat = a from by rw [BitVec.ofInt_natCast, BitVec.toNat_ofNat]; exact Nat.mod_eq_of_lt ha, show (BitVec.ofInt IntKind.u64.bits 15).toNat = 15 from by decide +kernel]
  have e : a &&& 15 = a % 16 := Nat.and_two_pow_sub_one_eq_mod a 4
  rw [e, IntKind.wrap_u64]
  omega
theorem tz64 (w : World) (hG : Glob w) : Calls Tryd.prog 99 #[.int .u64 16] w fun e w' => e = .returned (.int .i64 4) ∧ w' = w := by
  have hc : w.cell? ⟨7, 15, none⟩ = some (.int .u8 4) := Lib.TabIs.cell hG.bru gbru 15 (by decide)
  have hk : IntKind.u64.wrap (Go.bits .and .u64 16 (IntKind.u64.wrap (-16)) * 285870213051353865) / 288230376151711744 = 15 := by decide +kernel
  clear hG
  go_enter Tryd.func99, Tryd.ntmps99
  go_wp2
  go_ret
  exact ⟨rfl, rfl⟩
theorem tz16 (w : World) (hG : Glob w) : Calls Tryd.prog 88 #[.int .u64 16] w fun e w' => e = .returned (.int .i64 4) ∧ w' = w := by
  have H := Lib.hid (tz64 w hG)
  clear hG
  go_enter Tryd.func88, Tryd.ntmps88
  go_wp2_with (go_at_call 99; refine H.out.mono ?_; rintro e w' ⟨rfl, rfl⟩)
  go_ret
  exact ⟨rfl, rfl⟩
theorem pow2_16 (w : World) : Calls Tryd.prog 87 #[.int .i64 16] w fun e w' => e = .returned (.bool true) ∧ w' = w := by
  have hk : Go.bits .and .i64 16 15 = 0 := by decide +kernel
  go_enter Tryd.func87, Tryd.ntmps87
  go_wp2
  go_ret
  exact ⟨rfl, rfl⟩
def arrAt (wr : World) (g : Nat) (arr : List Int) : Prop := arr.length = 65 ∧ ∀ j : Nat, j < 65 → wr.cell? ⟨g, j, none⟩ = some (.int .u8 (arr.getD j 0)) ∧ wr.frozen? ⟨g, j, none⟩ = false
set_option maxHeartbeats 4000000 in
set_option maxRecDepth 100000 in
theorem fb16 (u : Int) (w : World) (hG : Glob w) (h0 : 0 ≤ u) (h1 : u < 18446744073709551616) :
    Calls Tryd.prog 64 #[.slice none 0 0, .int .u64 u, .int .i64 16, .bool false, .bool false] w fun e w' => e = .returned (.tuple #[.slice none 0 0, .string (strOfNums (hxL 16 u []))]) ∧ Below w.heap.size w w' := by
  have hP := Lib.hid pow2_16
  have hT := Lib.hid (fun (W : World) (hW : Below w.heap.size w W) => tz16 W (hG.below hW))
  clear hG
  go_enter Tryd.func64, Tryd.ntmps64
  go_wp2_with (first | (go_at_call 87; refine (hP.out _).mono ?_; rintro e w' ⟨rfl, rfl⟩) | (go_at_call 88; refine (hT.out _ (below_alloc (Below.refl _ _) _)).mono ?_; rintro e w' ⟨rfl, rfl⟩))
  have hz : Hid (arrAt (w.alloc (Obj.cells Tryd.zeroCells112 112)) w.heap.size (List.replicate 65 0)) := Lib.hid ⟨by simp, fun j hj => by
    have e : Tryd.zeroCells112 = Array.replicate 65 (.int .u8 0) := by kernel_rfl
    rw [e]
    constructor
    · rw [World.cell?_alloc_new, Array.getElem?_replicate, if_pos hj]
      rw [show (List.replicate 65 (0 : Int)).getD j 0 = 0 from by rw [List.getD_eq_getElem?_getD, List.getElem?_replicate]; split <;> rfl]
    · exact World.frozen?_alloc_new _ _ _ _⟩
  have hB0 : Hid (Below w.heap.size w (w.alloc (Obj.cells Tryd.zeroCells112 112))) := Lib.hid (below_alloc (Below.refl _ _) _)
  go_loopw [1, 13] (fun uv i wr => ∃ (x : Int) (f : Nat) (arr : List Int), uv = .int .u64 x ∧ i = .int .i64 ((f + 49 : Nat) : Int) ∧ 1 ≤ f ∧ f ≤ 16 ∧ Hid (0 ≤ x ∧ x < 16 ^ f ∧ hxL f x (arr.drop (f + 49)) = hxL 16 u []) ∧ Hid (arrAt wr w.heap.size arr) ∧ Hid (Below w.heap.size w wr)) (fun _ i _ => (intOf i).toNat)
  case atStart => exact ⟨u, 16, List.replicate 65 0, rfl, rfl, by omega, by omega, Lib.hid ⟨h0, by simpa using h1, by simp⟩, hz, hB0⟩
  case round =>
    obtain ⟨x, f, arr, rfl, rfl, hf1, hf2, hx, hA, hB⟩ := hrel
    obtain ⟨x0, x1, hxx⟩ := hx.out
    obtain ⟨hal, hac⟩ := hA.out
    obtain ⟨m, hm⟩ : ∃ m, m = f + 48 := ⟨_, rfl⟩
    have hm1 : f + 49 = m + 1 := by omega
    rw [hm1] at hxx ⊢
    have hw : wrap64 (((m + 1 : Nat) : Int) - 1) = (m : Int) := by unfold wrap64; omega
    have hcm := (hac m (by omega)).1
    have hfm := (hac m (by omega)).2
    have h16 : (16 : Int) ^ f ≤ 18446744073709551616 := by
      have := Nat.pow_le_pow_right (n := 16) (by decide) hf2
      have h2 : ((16 ^ f : Nat) : Int) ≤ ((16 ^ 16 : Nat) : Int) := by exact_mod_cast this
      simpa using h2
    have hset : Hid (∀ (v : Int), arrAt (wr.setCell ⟨w.heap.size, m, none⟩ (.int .u8 v)) w.heap.size (arr.set m v)) := Lib.hid (fun v => ⟨by rw [List.length_set]; exact hal, fun j hj => by
      by_cases hjm : j = m
      · subst hjm
        refine ⟨?_, by rw [World.frozen?_setCell]; exact hfm⟩
        rw [World.cell?_setCell_same _ _ _ hcm]
        simp [List.getD_eq_getElem?_getD, hal, hj]
      · have hne : (⟨w.heap.size, (m : Nat), none⟩ : Addr) ≠ ⟨w.heap.size, j, none⟩ := fun e => hjm (congrArg Addr.off e).symm
        refine ⟨?_, by rw [World.frozen?_setCell]; exact (hac j hj).2⟩
        refine ((World.cell?_setCell_other _ _ _ _ hne).trans (hac j hj).1).trans ?_
        simp [List.getD_eq_getElem?_getD, List.getElem?_set, show ¬ m = j from fun e => hjm e.symm]⟩)
    have hdrop : Hid (∀ (v : Int), (arr.set m v).drop m = v :: arr.drop (m + 1)) := Lib.hid (fun v => by
      rw [List.drop_eq_getElem_cons (by rw [List.length_set]; omega), List.getElem_set_self, List.drop_set_of_lt (by omega)])
    have hBs : Hid (∀ (v : Int), Below w.heap.size w (wr.setCell ⟨w.heap.size, m, none⟩ (.int .u8 v))) := Lib.hid (fun v => hB.out.setCell (Nat.le_refl _) _)
    by_cases hge : x ≥ 16
    · obtain ⟨f, rfl⟩ : ∃ f', f = f' + 2 := ⟨f - 2, by
        rcases Nat.lt_or_ge f 2 with h | h
        · exfalso
          have : f = 1 := by omega
          subst this
          simp at x1
          omega
        · omega⟩
      have hand := and15 x x0 (by omega)
      have hr0 := Int.emod_nonneg x (show (16 : Int) ≠ 0 by decide)
      have hr1 := Int.emod_lt_of_pos x (show (0 : Int) < 16 by decide)
      have hidx : ∀ h : (x % 16).toNat < digs.size, ((digs[(x % 16).toNat]'h).toNat : Int) = dgI (x % 16) := fun h => by rw [← digs_at (x % 16) hr0 hr1]; exact bt_at digs (x % 16) h
      simp only [digs] at hidx
      have hnext : Hid (0 ≤ x / 16 ∧ x / 16 < 16 ^ (f + 1) ∧ hxL (f + 1) (x / 16) (dgI (x % 16) :: arr.drop (m + 1)) = hxL 16 u []) := Lib.hid ⟨by omega, by
        have : x < 16 ^ (f + 1) * 16 := by rw [← Int.pow_succ]; exact x1
        omega, by
        have e := hxx
        rw [hxL, if_pos hge] at e
        exact e⟩
      have hmH := Lib.hid hm1
      have hb50 : Hid (1 ≤ f + 1 ∧ f + 1 ≤ 16) := Lib.hid ⟨by omega, by omega⟩
      have hm65 : m < 65 := by omega
      have hdg : 0 ≤ dgI (x % 16) ∧ dgI (x % 16) < 256 := by unfold dgI; split <;> omega
      generalize dgI (x % 16) = d at *
      clear hxx hx x1 h16 hm hm1 hf1 hf2 hac hA hal
      go_wp2
      go_roundw
      case rel =>
        have hmm := hmH.out
        exact ⟨x / 16, f + 1, arr.set m d, rfl, by first | go_num | (congr 1; omega), hb50.out.1, hb50.out.2, Lib.hid ⟨hnext.out.1, hnext.out.2.1, by rw [show f + 1 + 49 = m by omega, hdrop.out]; exact hnext.out.2.2⟩, Lib.hid (hset.out d), Lib.hid (hBs.out d)⟩
      case measure => simp [intOf]
    · obtain ⟨f, rfl⟩ : ∃ f', f = f' + 1 := ⟨f - 1, by omega⟩
      have hL : (arr.set m (dgI x)).drop m = hxL 16 u [] := by
        rw [hdrop.out, ← hxx, hxL, if_neg hge]
      have hlt16 : x < 16 := by omega
      have hidx : ∀ h : x.toNat < digs.size, ((digs[x.toNat]'h).toNat : Int) = dgI x := fun h => by rw [← digs_at x x0 hlt16]; exact bt_at digs x h
      simp only [digs] at hidx
      have hdg : 0 ≤ dgI x ∧ dgI x < 256 := by unfold dgI; split <;> omega
      have hm65 : m < 65 := by omega
      have hAs := hset.out (dgI x)
      have hlen : (hxL 16 u []).length = 65 - m := by rw [← hL, List.length_drop, hAs.1]
      have hconv : (convert 33 9 (.slice (some ⟨w.heap.size, m, none⟩) (65 - m) (65 - m))).run Tryd.prog (wr.setCell ⟨w.heap.size, m, none⟩ (.int .u8 (dgI x))) = .ok (.string (strOfNums (hxL 16 u []))) (wr.setCell ⟨w.heap.size, m, none⟩ (.int .u8 (dgI x))) :=
        string_of_reads Tryd.underlying33 Tryd.underlying5 Tryd.underlying9 ⟨hlen, by omega, fun _ => ⟨_, rfl, fun j hj => by
          have e := (hAs.2 (m + j) (by omega)).1
          rw [show (arr.set m (dgI x)).getD (m + j) 0 = (hxL 16 u []).getD j 0 from by rw [← hL, List.getD_eq_getElem?_getD, List.getD_eq_getElem?_getD, List.getElem?_drop]] at e
          by_cases h0 : j = 0
          · subst h0
            exact e
          · simp only [Addr.add, h0, if_false]
            exact e⟩⟩
      have hal65 : Tryd.prog.arrayLen 112 = 65 := by simp [Program.arrayLen, Tryd.underlying112]
      have hsl : ∀ W, (Instr.sliceAt 112 (.pointer (some ⟨w.heap.size, 0, none⟩)) (some (.int .i64 (m : Int))) none none).run Tryd.prog W = .ok (.slice (some ⟨w.heap.size, m, none⟩) (65 - m) (65 - m)) W := fun W => by
        rw [run_sliceAt_array_l W 112 ⟨w.heap.size, 0, none⟩ (by simp [Program.arrayLen, Program.elem, Tryd.underlying112]) .i64 (m : Int) (by omega) (by rw [hal65]; omega)]
        rw [show Tryd.prog.elem 112 = 5 from by simp [Program.elem, Tryd.underlying112], Tryd.sizeOf5]
        have hne : ¬ 65 = m := by omega
        by_cases hm0 : m = 0 <;> simp [Result.andThen, slicedAt, hal65, Addr.add, hm0, hne]
      obtain ⟨out, hout⟩ : ∃ z, z = strOfNums (hxL 16 u []) := ⟨_, rfl⟩
      rw [← hout] at hconv
      have hoH := Lib.hid hout
      generalize dgI x = d at *
      clear hxx hx x1 h16 hm hm1 hf1 hf2 hac hA hal hout hL hAs hlen
      go_wp2
      go_ret2
      refine ⟨?_, hBs.out d⟩
      show Ending.returned (.tuple #[.slice none 0 0, .string out]) = _
      rw [hoH.out]
def strconv_FormatInt.f (a0 a1 : Int) : Option ByteArray := if a1 = 16 ∧ 0 ≤ a0 ∧ a0 ≤ 9223372036854775807 then some (strOfNums (hxL 16 a0 [])) else none
set_option maxHeartbeats 4000000 in
set_option maxRecDepth 100000 in
theorem fi16 (u : Int) (w : World) (hG : Glob w) (h0 : 0 ≤ u) (h1 : u ≤ 9223372036854775807) :
    Calls Tryd.prog 40 #[.int .i64 u, .int .i64 16] w fun e w' => e = .returned (.string (strOfNums (hxL 16 u []))) ∧ Below w.heap.size w w' := by
  have H0 := fb16 u w hG h0 (by omega)
  have hwu : IntKind.u64.wrap u = u := by rw [IntKind.wrap_u64]; omega
  have hneg : decide (u < 0) = false := decide_eq_false (by omega)
  have hneg2 : ¬ u < 0 := by omega
  obtain ⟨out, hout⟩ : ∃ z, z = strOfNums (hxL 16 u []) := ⟨_, rfl⟩
  rw [← hout] at H0 ⊢
  clear hout
  have H := Lib.hid H0
  clear hG H0
  go_enter Tryd.func40, Tryd.ntmps40
  go_wp2_with (go_at_call 64; refine H.out.mono ?_; rintro e w' ⟨rfl, hb⟩; have hb := Lib.hid hb)
  go_ret
  exact ⟨rfl, hb.out⟩
set_option maxRecDepth 100000 in
theorem strconv_FormatInt.calls (a0 a1 : Int) (r : ByteArray) (w : World) (hG : Glob w) (h : strconv_FormatInt.f a0 a1 = some r) :
    Calls Tryd.prog 22 #[.int .i64 a0, .int .i64 a1] w fun e w' => e = .returned (.string r) ∧ Below w.heap.size w w' := by
  unfold strconv_FormatInt.f at h
  split at h
  case isFalse => exact absurd h (by simp)
  rename_i hc
  obtain ⟨rfl, h0, h1⟩ := hc
  obtain rfl := Option.some.inj h
  have H := Lib.hid (fi16 a0 w hG h0 h1)
  clear h hG
  go_enter Tryd.func22, Tryd.ntmps22
  go_wp2_with (go_at_call 40; refine H.out.mono ?_; rintro e w' ⟨rfl, hb⟩; have hb := Lib.hid hb)
  go_ret
  exact ⟨rfl, hb.out⟩
end Go.Proofs.YteonhdfjfjpbjaaDoor.O

/- Px14 -/
namespace Go.Proofs.YteonhdfjfjpbjaaDoor.P
open Go.Proofs.YteonhdfjfjpbjaaDoor.B
open Go.RowKit Go.Proofs.YteonhdfjfjpbjaaDoorW.PrintWords Go.Proofs.YteonhdfjfjpbjaaDoorW.PrintLast Go.Proofs.YteonhdfjfjpbjaaDoorW.PrintMore
attribute [local go_sem] str_leq str_gtr str_geq max2_int min2_int max_two min_two max_three min_three max_four min_four   -- for this text's walks alone
set_option linter.unusedVariables false
set_option linter.unusedSimpArgs false

open Go.Proofs.YteonhdfjfjpbjaaDoor.O
/-! ### chunk_Encode: function 9 -/
def chunk_Encode.l0 : Nat → ByteArray → Int → ByteArray → Option (ByteArray × Int)
  | 0, _, _, _ => none
  | k + 1, x0, x1, x176000 => if x0.toList = ([] : List UInt8) then ((Builder_String.f x176000).bind fun bt176 => (if bt176.1.size + 1 ≤ 9223372036854775807 then (if (bt176.1 ++ (⟨#[48]⟩ : ByteArray)).size + 2 ≤ 9223372036854775807 then (if ((bt176.1 ++ (⟨#[48]⟩ : ByteArray)) ++ (⟨#[13, 10]⟩ : ByteArray)).size + 2 ≤ 9223372036854775807 then (some (((bt176.1 ++ (⟨#[48]⟩ : ByteArray)) ++ (⟨#[13, 10]⟩ : ByteArray)) ++ (⟨#[13, 10]⟩ : ByteArray), 0)) else (none)) else (none)) else (none))) else ((strconv_FormatInt.f (mn x1 (x0.size : Int)) 16).bind fun t178 => (if t178.size + 2 ≤ 9223372036854775807 then (if 0 ≤ (mn x1 (x0.size : Int)) then (if (mn x1 (x0.size : Int)) ≤ (x0.size : Int) then (if (t178 ++ (⟨#[13, 10]⟩ : ByteArray)).size + (x0.extract 0 ((mn x1 (x0.size : Int)) : Int).toNat).size ≤ 9223372036854775807 then (if ((t178 ++ (⟨#[13, 10]⟩ : ByteArray)) ++ (x0.extract 0 ((mn x1 (x0.size : Int)) : Int).toNat)).size + 2 ≤ 9223372036854775807 then ((Builder_WriteString.f x176000 (((t178 ++ (⟨#[13, 10]⟩ : ByteArray)) ++ (x0.extract 0 ((mn x1 (x0.size : Int)) : Int).toNat)) ++ (⟨#[13, 10]⟩ : ByteArray))).bind fun bt179 => (chunk_Encode.l0 k (x0.extract ((mn x1 (x0.size : Int)) : Int).toNat x0.size) x1 bt179.2.2)) else (none)) else (none)) else (none)) else (none)) else (none)))
def chunk_Encode.f (k : Nat) (a0 : ByteArray) (a1 : Int) : Option (ByteArray × Int) := if a1 < 1 then (some ((⟨#[]⟩ : ByteArray), 1)) else (if (a0.size : Int) > 100000 then (some ((⟨#[]⟩ : ByteArray), 2)) else (chunk_Encode.l0 k a0 a1 (⟨#[]⟩ : ByteArray)))
theorem chunk_Encode.mono_l : ∀ k, (∀ y0 y1 y2, LeO (chunk_Encode.l0 k y0 y1 y2) (chunk_Encode.l0 (k + 1) y0 y1 y2))
  | 0 => fun _ _ _ r h => by simp [chunk_Encode.l0] at h
  | k + 1 => by
    have ih0 := chunk_Encode.mono_l k
    · intro y0 y1 y2
      unfold chunk_Encode.l0
      repeat' first
      | (with_reducible exact ih0 _ _ _)
      | (with_reducible exact LeO.refl _)
      | (with_reducible exact LeO.none _)
      | (with_reducible refine LeO.ite ?_ ?_)
      | (with_reducible refine LeO.bind ?_ (fun _ => ?_))
      | exact ih0 _ _ _
      | exact LeO.none _
      | refine LeO.ite ?_ ?_
      | refine LeO.bind ?_ (fun _ => ?_)
theorem chunk_Encode.mono : ∀ a0 a1 k, LeO (chunk_Encode.f k a0 a1) (chunk_Encode.f (k + 1) a0 a1) := by
  intro a0 a1 k
  have ih0 := chunk_Encode.mono_l k
  unfold chunk_Encode.f
  repeat' first
      | (with_reducible exact ih0 _ _ _)
      | (with_reducible exact LeO.refl _)
      | (with_reducible exact LeO.none _)
      | (with_reducible refine LeO.ite ?_ ?_)
      | (with_reducible refine LeO.bind ?_ (fun _ => ?_))
      | exact ih0 _ _ _
      | exact LeO.none _
      | refine LeO.ite ?_ ?_
      | refine LeO.bind ?_ (fun _ => ?_)
def chunk_Encode.T8 : Bool × List (List Nat × List Nat) := (true, [([], []), ([0], [0]), ([1], [1]), ([], []), ([], []), ([3, 4], [3, 4]), ([2, 5], [2, 5]), ([6], [6]), ([7, 1], [7])])
def chunk_Encode.B8 : List Nat := [0, 1, 3, 0, 0, 24, 63, 127, 255]
theorem chunk_Encode.tab8 : rtab .any (opsOf Tryd.f9 8) = chunk_Encode.T8 := by kernel_rfl
theorem chunk_Encode.bits8 : waitsOk chunk_Encode.T8.2 chunk_Encode.B8 = true := by kernel_rfl
set_option maxHeartbeats 8000000 in
set_option maxRecDepth 100000 in
theorem chunk_Encode.calls (k : Nat) (a0 : ByteArray) (a1 : Int) (r1 : ByteArray) (r2 : Int) (w : World) (hG : Glob w) (h : chunk_Encode.f k a0 a1 = some (r1, r2)) :
    Calls Tryd.prog 9 #[.string a0, .int .i64 a1] w fun e w' => e = .returned (.tuple #[.string r1, .int .i64 r2]) ∧ Below w.heap.size w w' := by
  have hu35 := Tryd.underlying35
  have HB := Aside0.mk (Below.refl w.heap.size w)
  have hGA := Aside0.mk hG
  clear hG
  have H : (if a1 < 1 then (some ((⟨#[]⟩ : ByteArray), 1)) else (if (a0.size : Int) > 100000 then (some ((⟨#[]⟩ : ByteArray), 2)) else (chunk_Encode.l0 k a0 a1 (⟨#[]⟩ : ByteArray)))) = some (r1, r2) := h
  clear h
  by_cases c3 : a1 < 1
  · rw [if_pos c3] at H
    have c3b0 : decide (a1 < 1) = true := decide_eq_true c3
    clear c3
    simp only [Option.some.injEq, Prod.mk.injEq] at H
    obtain ⟨rfl, rfl⟩ := H
    go_enter Tryd.func9, Tryd.ntmps9
    go_wp2
    go_ret2
    exact ⟨by first | rfl | (simp [errW_none, errW_some, bne_nil_] <;> rfl) | (simp [*, errW_none, errW_some] <;> rfl), by repeat (first | (with_reducible first | exact HB.out | apply below_alloc | apply pw_below_drewN | apply below_drew1) | exact HB.out)⟩
  · rw [if_neg c3] at H
    have c3b0 : decide (a1 < 1) = false := decide_eq_false c3
    clear c3
    by_cases c4 : (a0.size : Int) > 100000
    · rw [if_pos c4] at H
      have c4b0 : decide (100000 < (a0.size : Int)) = true := decide_eq_true c4
      have c4b1 : decide (100000 < a0.size) = true := decide_eq_true (by omega)
      clear c4
      simp only [Option.some.injEq, Prod.mk.injEq] at H
      obtain ⟨rfl, rfl⟩ := H
      go_enter Tryd.func9, Tryd.ntmps9
      go_wp2
      go_ret2
      exact ⟨by first | rfl | (simp [errW_none, errW_some, bne_nil_] <;> rfl) | (simp [*, errW_none, errW_some] <;> rfl), by repeat (first | (with_reducible first | exact HB.out | apply below_alloc | apply pw_below_drewN | apply below_drew1) | exact HB.out)⟩
    · rw [if_neg c4] at H
      have c4b0 : decide (100000 < (a0.size : Int)) = false := decide_eq_false c4
      have c4b1 : decide (100000 < a0.size) = false := decide_eq_false (by omega)
      clear c4
      have H' := Aside0.mk H
      clear H
      go_enter Tryd.func9, Tryd.ntmps9
      go_wp2_with (first | ((with_reducible refine gate_dst (N := 6) rfl ?_); refine box_event ?hg (N := 6) ?hd (cs := #[.pointer none, .slice none 0 0]) (t := 35) ?hr ?_; (case hd => rfl); (case hg => rfl); (case hr => first | (go_simp; done) | (go_simp; rfl)); intro gb175 hg w5 hbox hb; have n0_ := Aside0.mk (below_step (by repeat (first | (with_reducible first | exact HB.out | apply below_alloc | apply pw_below_drewN | apply below_drew1) | exact HB.out)) hb); have n1_ := Aside0.mk ((by rw [hg]; exact (below_size (by repeat (first | (with_reducible first | exact HB.out | apply below_alloc | apply pw_below_drewN | apply below_drew1) | exact HB.out))) : w.heap.size ≤ gb175)); have n2_ := Aside0.mk ((by rw [hg]; exact (below_size (by repeat (first | (with_reducible first | exact HB.out | apply below_alloc | apply pw_below_drewN | apply below_drew1) | exact HB.out))) : w.heap.size ≤ gb175)); have n3_ := Aside0.mk ((show IsS35 w w5 gb175 (⟨#[]⟩ : ByteArray) from IsS35.new hbox (by rw [hg]; exact (below_size (by repeat (first | (with_reducible first | exact HB.out | apply below_alloc | apply pw_below_drewN | apply below_drew1) | exact HB.out)))))); clear HB; have HB := n0_; have GW175 := n1_; have GE175 := n2_; have HI175 := n3_; clear n0_ n1_ n2_ n3_; clear hb hbox hg))
      first | go_loopg [0] k (fun kq v0 w' => ∃ (x0_1 : ByteArray) (x176000_1 : ByteArray), v0 = .string x0_1 ∧ Aside0 (chunk_Encode.l0 kq x0_1 a1 x176000_1 = some (r1, r2)) ∧ Aside0 (kq ≤ k) ∧ Aside0 (IsS35 w w' gb175 x176000_1) ∧ Aside0 (Below w.heap.size w w')) | (go_simp; go_loopg [0] k (fun kq v0 w' => ∃ (x0_1 : ByteArray) (x176000_1 : ByteArray), v0 = .string x0_1 ∧ Aside0 (chunk_Encode.l0 kq x0_1 a1 x176000_1 = some (r1, r2)) ∧ Aside0 (kq ≤ k) ∧ Aside0 (IsS35 w w' gb175 x176000_1) ∧ Aside0 (Below w.heap.size w w')))
      case atStart => exact ⟨(a0), ((⟨#[]⟩ : ByteArray)), (by first | rfl | (simp; done) | (simp [*]; done)), H', ⟨Nat.le_refl _⟩, ⟨by repeat (first | (with_reducible first | exact HI175.out | apply IsS35.alloc | apply IsS35.drewN | apply IsS35.drew) | exact HI175.out)⟩, ⟨by repeat (first | (with_reducible first | exact HB.out | apply below_alloc | apply pw_below_drewN | apply below_drew1 | refine below_set ?_ (IsS35.ge HI175.out)) | exact HB.out)⟩⟩
      case round =>
        clear H'
        try clear p2
        try clear c3
        try clear c3b0
        try clear c4
        try clear c4b0
        try clear c4b1
        obtain ⟨x0_1, x176000_1, rfl, HA, HK1, HI175, HB⟩ := hrel
        cases gk with
        | zero => exact absurd HA.out (by simp [chunk_Encode.l0])
        | succ k1 =>
          have H := HA.out
          clear HA
          simp only [chunk_Encode.l0] at H
          by_cases c6 : x0_1.toList = ([] : List UInt8)
          · rw [if_pos c6] at H
            have c6b0 : (x0_1.toList == ([] : List UInt8)) = true := beq_iff_eq.mpr c6
            have c6b1 : (x0_1.toList != ([] : List UInt8)) = false := bne_eq_false_iff_eq.mpr c6
            clear c6
            replace H := Option.bind_eq_some_iff.mp H
            obtain ⟨⟨t176, t177⟩, A70, H⟩ := H
            replace H : (if t176.size + 1 ≤ 9223372036854775807 then (if (t176 ++ (⟨#[48]⟩ : ByteArray)).size + 2 ≤ 9223372036854775807 then (if ((t176 ++ (⟨#[48]⟩ : ByteArray)) ++ (⟨#[13, 10]⟩ : ByteArray)).size + 2 ≤ 9223372036854775807 then (some (((t176 ++ (⟨#[48]⟩ : ByteArray)) ++ (⟨#[13, 10]⟩ : ByteArray)) ++ (⟨#[13, 10]⟩ : ByteArray), 0)) else (none)) else (none)) else (none)) = some (r1, r2) := H
            have A7 := Aside0.mk A70
            clear A70
            by_cases c8 : t176.size + 1 ≤ 9223372036854775807
            · rw [if_pos c8] at H
              have c8b0 := eq_true c8
              have c8b1 : decide (t176.size + 1 ≤ 9223372036854775807) = true := decide_eq_true c8
              try have c8b2 : (9223372036854775807 < t176.size + 1) = False := eq_false (Nat.not_lt.2 c8)
              by_cases c9 : (t176 ++ (⟨#[48]⟩ : ByteArray)).size + 2 ≤ 9223372036854775807
              · rw [if_pos c9] at H
                have c9b0 := eq_true c9
                have c9b1 : decide ((t176 ++ (⟨#[48]⟩ : ByteArray)).size + 2 ≤ 9223372036854775807) = true := decide_eq_true c9
                try have c9b2 : (9223372036854775807 < (t176 ++ (⟨#[48]⟩ : ByteArray)).size + 2) = False := eq_false (Nat.not_lt.2 c9)
                obtain ⟨nc9, hc9⟩ : ∃ n_ : Nat, n_ = (t176 ++ (⟨#[48]⟩ : ByteArray)).size + 2 := ⟨_, rfl⟩
                have c9m0 : nc9 ≤ 9223372036854775807 := by rw [hc9]; exact c9
                (first | simp [go_sem, c8b0] at hc9 | simp [go_sem] at hc9 | skip)
                rw [hc9] at c9m0
                have c9m1 := eq_false (Nat.not_lt.2 c9m0)
                have c9m2 := decide_eq_true c9m0
                clear hc9 c9m0
                by_cases c10 : ((t176 ++ (⟨#[48]⟩ : ByteArray)) ++ (⟨#[13, 10]⟩ : ByteArray)).size + 2 ≤ 9223372036854775807
                · rw [if_pos c10] at H
                  have c10b0 := eq_true c10
                  have c10b1 : decide (((t176 ++ (⟨#[48]⟩ : ByteArray)) ++ (⟨#[13, 10]⟩ : ByteArray)).size + 2 ≤ 9223372036854775807) = true := decide_eq_true c10
                  try have c10b2 : (9223372036854775807 < ((t176 ++ (⟨#[48]⟩ : ByteArray)) ++ (⟨#[13, 10]⟩ : ByteArray)).size + 2) = False := eq_false (Nat.not_lt.2 c10)
                  obtain ⟨nc10, hc10⟩ : ∃ n_ : Nat, n_ = ((t176 ++ (⟨#[48]⟩ : ByteArray)) ++ (⟨#[13, 10]⟩ : ByteArray)).size + 2 := ⟨_, rfl⟩
                  have c10m0 : nc10 ≤ 9223372036854775807 := by rw [hc10]; exact c10
                  (first | simp [go_sem, c8b0, c9b0] at hc10 | simp [go_sem] at hc10 | skip)
                  rw [hc10] at c10m0
                  have c10m1 := eq_false (Nat.not_lt.2 c10m0)
                  have c10m2 := decide_eq_true c10m0
                  clear hc10 c10m0
                  simp only [Option.some.injEq, Prod.mk.injEq] at H
                  obtain ⟨rfl, rfl⟩ := H
                  go_wp2_with (first | ((with_reducible refine gate_callee (f := 17) rfl ?_); refine goesL_ (some 31) rfl rfl Tryd.func17 (by kernel_rfl) rfl #[.pointer (some ⟨gb175, 0, none⟩)] rfl (by (try simp only [List.map_toArray, List.map_cons, List.map_nil]); first | done | rfl | (simp only [List.length_drop, List.length_take]; rfl)) ?_; (with_reducible refine (Builder_String.calls gb175 x176000_1 t176 t177 w _ ?side1 ?side2 A7.out).mono ?_); (case side1 => repeat (first | (with_reducible first | exact HI175.out | apply IsS35.alloc | apply IsS35.drewN | apply IsS35.drew) | exact HI175.out)); (case side2 => repeat (first | (with_reducible first | exact HB.out | apply below_alloc | apply pw_below_drewN | apply below_drew1 | refine below_set ?_ (IsS35.ge HI175.out)) | exact HB.out)); rintro e w11 ⟨rfl, hi, hb, hk⟩; refine ⟨_, rfl, ?_⟩; have n0_ := Aside0.mk (hb); have n1_ := Aside0.mk (hi); clear HB; clear HI175; have HB := n0_; have HI175 := n1_; clear n0_ n1_; (try clear hb); (try clear hk); (try clear hi)))
                  go_ret2
                  exact ⟨by first | rfl | (simp [errW_none, errW_some, bne_nil_] <;> rfl) | (simp [*, errW_none, errW_some] <;> rfl), by repeat (first | (with_reducible first | exact HB.out | apply below_alloc | apply pw_below_drewN | apply below_drew1 | refine below_set ?_ (IsS35.ge HI175.out)) | exact HB.out)⟩
                · rw [if_neg c10] at H
                  exact absurd H (by simp)
              · rw [if_neg c9] at H
                exact absurd H (by simp)
            · rw [if_neg c8] at H
              exact absurd H (by simp)
          · rw [if_neg c6] at H
            have c6b0 : (x0_1.toList == ([] : List UInt8)) = false := beq_eq_false_iff_ne.mpr c6
            have c6b1 : (x0_1.toList != ([] : List UInt8)) = true := bne_iff_ne.mpr c6
            obtain ⟨ji12, hji12⟩ : ∃ j_ : Int, (mn a1 (x0_1.size : Int)) = j_ := ⟨_, rfl⟩
            replace H : ((strconv_FormatInt.f (ji12) 16).bind fun t178 => (if t178.size + 2 ≤ 9223372036854775807 then (if 0 ≤ (ji12) then (if (ji12) ≤ (x0_1.size : Int) then (if (t178 ++ (⟨#[13, 10]⟩ : ByteArray)).size + (x0_1.extract 0 ((ji12) : Int).toNat).size ≤ 9223372036854775807 then (if ((t178 ++ (⟨#[13, 10]⟩ : ByteArray)) ++ (x0_1.extract 0 ((ji12) : Int).toNat)).size + 2 ≤ 9223372036854775807 then ((Builder_WriteString.f x176000_1 (((t178 ++ (⟨#[13, 10]⟩ : ByteArray)) ++ (x0_1.extract 0 ((ji12) : Int).toNat)) ++ (⟨#[13, 10]⟩ : ByteArray))).bind fun bt179 => (chunk_Encode.l0 k1 (x0_1.extract ((ji12) : Int).toNat x0_1.size) a1 bt179.2.2)) else (none)) else (none)) else (none)) else (none)) else (none))) = some (r1, r2) := by first | (rw [hji12] at H; exact H) | (simp only [hji12] at H ⊢; exact H)
            have hji12_ : (if (x0_1.size : Int) < a1 then (x0_1.size : Int) else a1) = ji12 := hji12
            replace H := Option.bind_eq_some_iff.mp H
            obtain ⟨t178, A130, H⟩ := H
            replace H : (if t178.size + 2 ≤ 9223372036854775807 then (if 0 ≤ (ji12) then (if (ji12) ≤ (x0_1.size : Int) then (if (t178 ++ (⟨#[13, 10]⟩ : ByteArray)).size + (x0_1.extract 0 ((ji12) : Int).toNat).size ≤ 9223372036854775807 then (if ((t178 ++ (⟨#[13, 10]⟩ : ByteArray)) ++ (x0_1.extract 0 ((ji12) : Int).toNat)).size + 2 ≤ 9223372036854775807 then ((Builder_WriteString.f x176000_1 (((t178 ++ (⟨#[13, 10]⟩ : ByteArray)) ++ (x0_1.extract 0 ((ji12) : Int).toNat)) ++ (⟨#[13, 10]⟩ : ByteArray))).bind fun bt179 => (chunk_Encode.l0 k1 (x0_1.extract ((ji12) : Int).toNat x0_1.size) a1 bt179.2.2)) else (none)) else (none)) else (none)) else (none)) else (none)) = some (r1, r2) := H
            have A13 := Aside0.mk A130
            clear A130
            by_cases c14 : t178.size + 2 ≤ 9223372036854775807
            · rw [if_pos c14] at H
              have c14b0 := eq_true c14
              have c14b1 : decide (t178.size + 2 ≤ 9223372036854775807) = true := decide_eq_true c14
              try have c14b2 : (9223372036854775807 < t178.size + 2) = False := eq_false (Nat.not_lt.2 c14)
              by_cases c15 : 0 ≤ (ji12)
              · rw [if_pos c15] at H
                have c15b0 := eq_true c15
                have c15b1 : decide (0 ≤ (ji12)) = true := decide_eq_true c15
                clear c15
                by_cases c16 : (ji12) ≤ (x0_1.size : Int)
                · rw [if_pos c16] at H
                  have c16b0 := eq_true c16
                  have c16b1 : decide ((ji12) ≤ (x0_1.size : Int)) = true := decide_eq_true c16
                  clear c16
                  by_cases c17 : (t178 ++ (⟨#[13, 10]⟩ : ByteArray)).size + (x0_1.extract 0 ((ji12) : Int).toNat).size ≤ 9223372036854775807
                  · rw [if_pos c17] at H
                    have c17b0 := eq_true c17
                    have c17b1 : decide ((t178 ++ (⟨#[13, 10]⟩ : ByteArray)).size + (x0_1.extract 0 ((ji12) : Int).toNat).size ≤ 9223372036854775807) = true := decide_eq_true c17
                    try have c17b2 : (9223372036854775807 < (t178 ++ (⟨#[13, 10]⟩ : ByteArray)).size + (x0_1.extract 0 ((ji12) : Int).toNat).size) = False := eq_false (Nat.not_lt.2 c17)
                    obtain ⟨nc17, hc17⟩ : ∃ n_ : Nat, n_ = (t178 ++ (⟨#[13, 10]⟩ : ByteArray)).size + (x0_1.extract 0 ((ji12) : Int).toNat).size := ⟨_, rfl⟩
                    have c17m0 : nc17 ≤ 9223372036854775807 := by rw [hc17]; exact c17
                    (first | simp [go_sem, c14b0, c15b0, c16b0] at hc17 | simp [go_sem] at hc17 | skip)
                    rw [hc17] at c17m0
                    have c17m1 := eq_false (Nat.not_lt.2 c17m0)
                    have c17m2 := decide_eq_true c17m0
                    clear hc17 c17m0
                    by_cases c18 : ((t178 ++ (⟨#[13, 10]⟩ : ByteArray)) ++ (x0_1.extract 0 ((ji12) : Int).toNat)).size + 2 ≤ 9223372036854775807
                    · rw [if_pos c18] at H
                      have c18b0 := eq_true c18
                      have c18b1 : decide (((t178 ++ (⟨#[13, 10]⟩ : ByteArray)) ++ (x0_1.extract 0 ((ji12) : Int).toNat)).size + 2 ≤ 9223372036854775807) = true := decide_eq_true c18
                      try have c18b2 : (9223372036854775807 < ((t178 ++ (⟨#[13, 10]⟩ : ByteArray)) ++ (x0_1.extract 0 ((ji12) : Int).toNat)).size + 2) = False := eq_false (Nat.not_lt.2 c18)
                      obtain ⟨nc18, hc18⟩ : ∃ n_ : Nat, n_ = ((t178 ++ (⟨#[13, 10]⟩ : ByteArray)) ++ (x0_1.extract 0 ((ji12) : Int).toNat)).size + 2 := ⟨_, rfl⟩
                      have c18m0 : nc18 ≤ 9223372036854775807 := by rw [hc18]; exact c18
                      (first | simp [go_sem, c14b0, c15b0, c16b0, c17b0] at hc18 | simp [go_sem] at hc18 | skip)
                      rw [hc18] at c18m0
                      have c18m1 := eq_false (Nat.not_lt.2 c18m0)
                      have c18m2 := decide_eq_true c18m0
                      clear hc18 c18m0
                      replace H := Option.bind_eq_some_iff.mp H
                      obtain ⟨⟨t179, t180, t181⟩, A190, H⟩ := H
                      replace H : (chunk_Encode.l0 k1 (x0_1.extract ((ji12) : Int).toNat x0_1.size) a1 t181) = some (r1, r2) := H
                      have A19 := Aside0.mk A190
                      clear A190
                      have c20b0 := eq_true (of_decide_eq_true (by first | (with_reducible assumption) | assumption) : 0 ≤ (ji12))
                      have c21b0 := eq_true (of_decide_eq_true (by first | (with_reducible assumption) | assumption) : (ji12) ≤ (x0_1.size : Int))
                      have H' := Aside0.mk H
                      clear H
                      try go_wp2
                      have n0_ := Aside0.mk (IsS35.drew HI175.out)
                      have n1_ := Aside0.mk (below_drew1 HB.out)
                      clear HI175
                      clear HB
                      have HI175 := n0_
                      have HB := n1_
                      clear n0_ n1_
                      refine start_ (n := 9) (S := fun w' => True) (ds := []) #[false, false, false, false, false, false, false, false, false] (by kernel_rfl) rfl rfl trivial (fun hHeld => ?_); refine with_tabW chunk_Encode.tab8 chunk_Encode.bits8 (fun HT_ HW_ => ?_)
                      generalize wr.drew = w22 at HI175 HB hHeld ⊢
                      refine pure_ (i := 0) (N := some 19) (v := ?_) (a' := ?_) #[true, false, false, false, false, false, false, false, false] rfl rfl (any_of HT_.out (by kernel_rfl)) (fun _ _ _ h => h) (Or.inl ⟨by rfl, ?_⟩) ?_ ?_
                      rotate_left
                      · intro w'
                        go_simp
                        first | with_reducible rfl | (rw [if_neg (by intro h_; simp only [ByteArray.size_append, ByteArray.size_extract, eq_iff_iff, iff_true, iff_false, decide_eq_true_eq] at *; omega)])
                      rotate_left
                      · simp only [Act.put, List.setIfInBounds_toArray, List.set_cons_zero, List.set_cons_succ, i64_w, i32_w]
                        rfl
                      refine pure_ (i := 3) (N := some 22) (v := ?_) (a' := ?_) #[true, false, false, true, false, false, false, false, false] rfl rfl (any_of HT_.out (by kernel_rfl)) (fun _ _ _ h => h) (Or.inl ⟨by rfl, ?_⟩) ?_ ?_
                      rotate_left
                      · intro w'
                        go_simp
                        first | with_reducible rfl | (rw [if_neg (by intro h_; simp only [ByteArray.size_append, ByteArray.size_extract, eq_iff_iff, iff_true, iff_false, decide_eq_true_eq] at *; omega)])
                      rotate_left
                      · simp only [Act.put, List.setIfInBounds_toArray, List.set_cons_zero, List.set_cons_succ, i64_w, i32_w]
                        rfl
                      refine pure_ (i := 4) (N := some 23) (v := ?_) (a' := ?_) #[true, false, false, true, true, false, false, false, false] rfl rfl (any_of HT_.out (by kernel_rfl)) (fun _ _ _ h => h) (Or.inl ⟨by rfl, ?_⟩) ?_ ?_
                      rotate_left
                      · intro w'
                        go_simp
                        first | with_reducible rfl | (rw [if_neg (by intro h_; simp only [ByteArray.size_append, ByteArray.size_extract, eq_iff_iff, iff_true, iff_false, decide_eq_true_eq] at *; omega)])
                      rotate_left
                      · simp only [Act.put, List.setIfInBounds_toArray, List.set_cons_zero, List.set_cons_succ, i64_w, i32_w]
                        rfl
                      refine pure_ (i := 5) (N := some 24) (v := ?_) (a' := ?_) #[true, false, false, true, true, true, false, false, false] rfl rfl (any_of HT_.out (by kernel_rfl)) (fun _ _ _ h => h) (Or.inl ⟨by rfl, ?_⟩) ?_ ?_
                      rotate_left
                      · intro w'
                        go_simp
                        first | with_reducible rfl | (rw [if_neg (by intro h_; simp only [ByteArray.size_append, ByteArray.size_extract, eq_iff_iff, iff_true, iff_false, decide_eq_true_eq] at *; omega)])
                      rotate_left
                      · simp only [Act.put, List.setIfInBounds_toArray, List.set_cons_zero, List.set_cons_succ, i64_w, i32_w]
                        rfl
                      refine one_ (i := 1) (N := some 20) #[true, true, false, true, true, true, false, false, false] rfl rfl (one_of HT_.out (by kernel_rfl)) (by decide) (fun K hK => ?_)
                      refine goes_ Tryd.func22 (by kernel_rfl) rfl #[.int .i64 ji12, .int .i64 16] (by rfl) rfl rfl (by (try simp only [List.map_toArray, List.map_cons, List.map_nil]); first | done | (simp only [hji12]; rfl) | rfl | (simp only [List.length_drop, List.length_take]; rfl)) ?_
                      with_reducible refine (strconv_FormatInt.calls ji12 16 t178 _ ?side1 A13.out).mono ?_
                      (case side1 => exact Glob.below hGA.out (by repeat (first | (with_reducible first | exact HB.out | apply below_alloc | apply pw_below_drewN | apply below_drew1 | refine below_set ?_ (IsS35.ge HI175.out)) | exact HB.out)))
                      rintro e w23 ⟨rfl, hb⟩
                      refine ⟨_, rfl, ?_⟩
                      have n0_ := Aside0.mk (IsS35.below (by repeat (first | (with_reducible first | exact HI175.out | apply IsS35.alloc | apply IsS35.drewN | apply IsS35.drew) | exact HI175.out)) hb)
                      have n1_ := Aside0.mk (below_step (by repeat (first | (with_reducible first | exact HB.out | apply below_alloc | apply pw_below_drewN | apply below_drew1 | refine below_set ?_ (IsS35.ge HI175.out)) | exact HB.out)) hb)
                      clear HI175
                      clear HB
                      have HI175 := n0_
                      have HB := n1_
                      clear n0_ n1_
                      (try clear hb)
                      (try clear hb2)
                      (try clear hk)
                      (try clear hi)
                      refine hK.out _ _ trivial (fun hHeld => ?_)
                      clear hK K
                      refine norm_ (a' := ?_) ?_ ?_
                      rotate_left
                      · show Act.put _ (some 20) _ = _
                        simp only [Act.put, List.setIfInBounds_toArray, List.set_cons_zero, List.set_cons_succ, i64_w, i32_w]
                        rfl
                      refine pure_ (i := 2) (N := some 21) (v := ?_) (a' := ?_) #[true, true, true, true, true, true, false, false, false] rfl rfl (any_of HT_.out (by kernel_rfl)) (fun _ _ _ h => h) (Or.inl ⟨by rfl, ?_⟩) ?_ ?_
                      rotate_left
                      · intro w'
                        go_simp
                        first | with_reducible rfl | (rw [if_neg (by intro h_; simp only [ByteArray.size_append, ByteArray.size_extract, eq_iff_iff, iff_true, iff_false, decide_eq_true_eq] at *; omega)])
                      rotate_left
                      · simp only [Act.put, List.setIfInBounds_toArray, List.set_cons_zero, List.set_cons_succ, i64_w, i32_w]
                        rfl
                      refine pure_ (i := 6) (N := some 25) (v := ?_) (a' := ?_) #[true, true, true, true, true, true, true, false, false] rfl rfl (any_of HT_.out (by kernel_rfl)) (fun _ _ _ h => h) (Or.inl ⟨by rfl, ?_⟩) ?_ ?_
                      rotate_left
                      · intro w'
                        go_simp
                        first | with_reducible rfl | (rw [if_neg (by intro h_; simp only [ByteArray.size_append, ByteArray.size_extract, eq_iff_iff, iff_true, iff_false, decide_eq_true_eq] at *; omega)])
                      rotate_left
                      · simp only [Act.put, List.setIfInBounds_toArray, List.set_cons_zero, List.set_cons_succ, i64_w, i32_w]
                        rfl
                      refine pure_ (i := 7) (N := some 26) (v := ?_) (a' := ?_) #[true, true, true, true, true, true, true, true, false] rfl rfl (any_of HT_.out (by kernel_rfl)) (fun _ _ _ h => h) (Or.inl ⟨by rfl, ?_⟩) ?_ ?_
                      rotate_left
                      · intro w'
                        go_simp
                        first | with_reducible rfl | (rw [if_neg (by intro h_; simp only [ByteArray.size_append, ByteArray.size_extract, eq_iff_iff, iff_true, iff_false, decide_eq_true_eq] at *; omega)])
                      rotate_left
                      · simp only [Act.put, List.setIfInBounds_toArray, List.set_cons_zero, List.set_cons_succ, i64_w, i32_w]
                        rfl
                      refine one_ (i := 8) (N := some 27) #[true, true, true, true, true, true, true, true, true] rfl rfl (one_of HT_.out (by kernel_rfl)) (by decide) (fun K hK => ?_)
                      refine goes_ Tryd.func15 (by kernel_rfl) rfl #[.pointer (some ⟨gb175, 0, none⟩), .string (((t178 ++ (⟨#[13, 10]⟩ : ByteArray)) ++ (x0_1.extract 0 ((ji12) : Int).toNat)) ++ (⟨#[13, 10]⟩ : ByteArray))] (by rfl) rfl rfl (by (try simp only [List.map_toArray, List.map_cons, List.map_nil]); first | done | (simp only [hji12]; rfl) | rfl | (simp only [List.length_drop, List.length_take]; rfl)) ?_
                      with_reducible refine (Builder_WriteString.calls gb175 x176000_1 (((t178 ++ (⟨#[13, 10]⟩ : ByteArray)) ++ (x0_1.extract 0 ((ji12) : Int).toNat)) ++ (⟨#[13, 10]⟩ : ByteArray)) t179 t180 t181 w _ ?side1 ?side2 A19.out).mono ?_
                      (case side1 => repeat (first | (with_reducible first | exact HI175.out | apply IsS35.alloc | apply IsS35.drewN | apply IsS35.drew) | exact HI175.out))
                      (case side2 => repeat (first | (with_reducible first | exact HB.out | apply below_alloc | apply pw_below_drewN | apply below_drew1 | refine below_set ?_ (IsS35.ge HI175.out)) | exact HB.out))
                      rintro e w24 ⟨rfl, hi, hb, hk⟩
                      refine ⟨_, rfl, ?_⟩
                      have n0_ := Aside0.mk (hb)
                      have n1_ := Aside0.mk (hi)
                      clear HB
                      clear HI175
                      have HB := n0_
                      have HI175 := n1_
                      clear n0_ n1_
                      (try clear hb)
                      (try clear hk)
                      (try clear hi)
                      (try simp only [errW_none, errW_some])
                      refine hK.out _ _ trivial (fun hHeld => ?_)
                      clear hK K
                      refine norm_ (a' := ?_) ?_ ?_
                      rotate_left
                      · show Act.put _ (some 27) _ = _
                        simp only [Act.put, List.setIfInBounds_toArray, List.set_cons_zero, List.set_cons_succ, i64_w, i32_w]
                        rfl
                      refine done_ (done_of HT_.out (by kernel_rfl)) ?_
                      try go_wp2
                      go_roundg k1
                      case measure => have := HK1.out; omega
                      case rel => exact ⟨(x0_1.extract ((ji12) : Int).toNat x0_1.size), (t181), (by first | rfl | (simp; done) | (simp only [← hji12] <;> (first | rfl | simp)) | (simp [*]; done)), H', ⟨by have := HK1.out; omega⟩, ⟨by repeat (first | (with_reducible first | exact HI175.out | apply IsS35.alloc | apply IsS35.drewN | apply IsS35.drew) | exact HI175.out)⟩, ⟨by repeat (first | (with_reducible first | exact HB.out | apply below_alloc | apply pw_below_drewN | apply below_drew1 | refine below_set ?_ (IsS35.ge HI175.out)) | exact HB.out)⟩⟩
                    · rw [if_neg c18] at H
                      exact absurd H (by simp)
                  · rw [if_neg c17] at H
                    exact absurd H (by simp)
                · rw [if_neg c16] at H
                  exact absurd H (by simp)
              · rw [if_neg c15] at H
                exact absurd H (by simp)
            · rw [if_neg c14] at H
              exact absurd H (by simp)

end Go.Proofs.YteonhdfjfjpbjaaDoor.P

/- Px15 -/
namespace Go.Proofs.YteonhdfjfjpbjaaDoor.P
open Go.Proofs.YteonhdfjfjpbjaaDoor.B
open Go.RowKit Go.Proofs.YteonhdfjfjpbjaaDoorW.PrintWords Go.Proofs.YteonhdfjfjpbjaaDoorW.PrintLast Go.Proofs.YteonhdfjfjpbjaaDoorW.PrintMore
attribute [local go_sem] str_leq str_gtr str_geq max2_int min2_int max_two min_two max_three min_three max_four min_four   -- for this text's walks alone
set_option linter.unusedVariables false
set_option linter.unusedSimpArgs false

open Go.Proofs.YteonhdfjfjpbjaaDoor.O
/-! ### broadsheetlaw19_awake: function 6 -/
def broadsheetlaw19_awake.f (k : Nat)  : Option (Bool) := (chunk_Decode.f k (⟨#[51, 59, 97, 61, 98, 13, 10, 97, 98, 99, 13, 10, 48, 13, 10, 88, 58, 32, 121, 13, 10, 13, 10, 122]⟩ : ByteArray)).bind fun bt182 => ((chunk_Encode.f k (⟨#[97, 98, 99, 100]⟩ : ByteArray) 3).bind fun bt185 => ((chunk_Decode.f k (⟨#[51, 13, 10, 97, 98, 13, 10]⟩ : ByteArray)).bind fun bt187 => (if bt182.2.2 = 0 then (if bt182.1.toList = ([97, 98, 99] : List UInt8) then (if bt182.2.1.toList = ([122] : List UInt8) then (if bt185.2 = 0 then (if bt185.1.toList = ([51, 13, 10, 97, 98, 99, 13, 10, 49, 13, 10, 100, 13, 10, 48, 13, 10, 13, 10] : List UInt8) then (some (bt187.2.2 == 190)) else (some false)) else (some false)) else (some false)) else (some false)) else (some false))))
theorem broadsheetlaw19_awake.mono : ∀ k, LeO (broadsheetlaw19_awake.f k ) (broadsheetlaw19_awake.f (k + 1) ) := by
  intro  k
  unfold broadsheetlaw19_awake.f
  repeat' first
      | (with_reducible exact chunk_Decode.mono _ _)
      | (with_reducible exact chunk_Encode.mono _ _ _)
      | (with_reducible exact LeO.refl _)
      | (with_reducible exact LeO.none _)
      | (with_reducible refine LeO.ite ?_ ?_)
      | (with_reducible refine LeO.bind ?_ (fun _ => ?_))
      | exact chunk_Decode.mono _ _
      | exact chunk_Encode.mono _ _ _
      | exact LeO.none _
      | refine LeO.ite ?_ ?_
      | refine LeO.bind ?_ (fun _ => ?_)
set_option maxHeartbeats 8000000 in
set_option maxRecDepth 100000 in
theorem broadsheetlaw19_awake.calls (k : Nat)  (r : Bool) (w : World) (hG : Glob w) (h : broadsheetlaw19_awake.f k  = some r) :
    Calls Tryd.prog 6 #[] w fun e w' => e = .returned (.bool r) ∧ Below w.heap.size w w' := by
  have HB := Aside0.mk (Below.refl w.heap.size w)
  have hGA := Aside0.mk hG
  clear hG
  have H : ((chunk_Decode.f k (⟨#[51, 59, 97, 61, 98, 13, 10, 97, 98, 99, 13, 10, 48, 13, 10, 88, 58, 32, 121, 13, 10, 13, 10, 122]⟩ : ByteArray)).bind fun bt182 => ((chunk_Encode.f k (⟨#[97, 98, 99, 100]⟩ : ByteArray) 3).bind fun bt185 => ((chunk_Decode.f k (⟨#[51, 13, 10, 97, 98, 13, 10]⟩ : ByteArray)).bind fun bt187 => (if bt182.2.2 = 0 then (if bt182.1.toList = ([97, 98, 99] : List UInt8) then (if bt182.2.1.toList = ([122] : List UInt8) then (if bt185.2 = 0 then (if bt185.1.toList = ([51, 13, 10, 97, 98, 99, 13, 10, 49, 13, 10, 100, 13, 10, 48, 13, 10, 13, 10] : List UInt8) then (some (bt187.2.2 == 190)) else (some false)) else (some false)) else (some false)) else (some false)) else (some false))))) = some r := h
  clear h
  replace H := Option.bind_eq_some_iff.mp H
  obtain ⟨⟨t182, t183, t184⟩, A10, H⟩ := H
  replace H : ((chunk_Encode.f k (⟨#[97, 98, 99, 100]⟩ : ByteArray) 3).bind fun bt185 => ((chunk_Decode.f k (⟨#[51, 13, 10, 97, 98, 13, 10]⟩ : ByteArray)).bind fun bt187 => (if t184 = 0 then (if t182.toList = ([97, 98, 99] : List UInt8) then (if t183.toList = ([122] : List UInt8) then (if bt185.2 = 0 then (if bt185.1.toList = ([51, 13, 10, 97, 98, 99, 13, 10, 49, 13, 10, 100, 13, 10, 48, 13, 10, 13, 10] : List UInt8) then (some (bt187.2.2 == 190)) else (some false)) else (some false)) else (some false)) else (some false)) else (some false)))) = some r := H
  have A1 := Aside0.mk A10
  clear A10
  replace H := Option.bind_eq_some_iff.mp H
  obtain ⟨⟨t185, t186⟩, A20, H⟩ := H
  replace H : ((chunk_Decode.f k (⟨#[51, 13, 10, 97, 98, 13, 10]⟩ : ByteArray)).bind fun bt187 => (if t184 = 0 then (if t182.toList = ([97, 98, 99] : List UInt8) then (if t183.toList = ([122] : List UInt8) then (if t186 = 0 then (if t185.toList = ([51, 13, 10, 97, 98, 99, 13, 10, 49, 13, 10, 100, 13, 10, 48, 13, 10, 13, 10] : List UInt8) then (some (bt187.2.2 == 190)) else (some false)) else (some false)) else (some false)) else (some false)) else (some false))) = some r := H
  have A2 := Aside0.mk A20
  clear A20
  replace H := Option.bind_eq_some_iff.mp H
  obtain ⟨⟨t187, t188, t189⟩, A30, H⟩ := H
  replace H : (if t184 = 0 then (if t182.toList = ([97, 98, 99] : List UInt8) then (if t183.toList = ([122] : List UInt8) then (if t186 = 0 then (if t185.toList = ([51, 13, 10, 97, 98, 99, 13, 10, 49, 13, 10, 100, 13, 10, 48, 13, 10, 13, 10] : List UInt8) then (some (t189 == 190)) else (some false)) else (some false)) else (some false)) else (some false)) else (some false)) = some r := H
  have A3 := Aside0.mk A30
  clear A30
  by_cases c4 : t184 = 0
  · rw [if_pos c4] at H
    have c4b0 : (t184 == 0) = true := beq_iff_eq.mpr c4
    have c4b1 : (t184 != 0) = false := bne_eq_false_iff_eq.mpr c4
    clear c4
    by_cases c5 : t182.toList = ([97, 98, 99] : List UInt8)
    · rw [if_pos c5] at H
      have c5b0 : (t182.toList == ([97, 98, 99] : List UInt8)) = true := beq_iff_eq.mpr c5
      have c5b1 : (t182.toList != ([97, 98, 99] : List UInt8)) = false := bne_eq_false_iff_eq.mpr c5
      clear c5
      by_cases c6 : t183.toList = ([122] : List UInt8)
      · rw [if_pos c6] at H
        have c6b0 : (t183.toList == ([122] : List UInt8)) = true := beq_iff_eq.mpr c6
        have c6b1 : (t183.toList != ([122] : List UInt8)) = false := bne_eq_false_iff_eq.mpr c6
        clear c6
        by_cases c7 : t186 = 0
        · rw [if_pos c7] at H
          have c7b0 : (t186 == 0) = true := beq_iff_eq.mpr c7
          have c7b1 : (t186 != 0) = false := bne_eq_false_iff_eq.mpr c7
          clear c7
          by_cases c8 : t185.toList = ([51, 13, 10, 97, 98, 99, 13, 10, 49, 13, 10, 100, 13, 10, 48, 13, 10, 13, 10] : List UInt8)
          · rw [if_pos c8] at H
            have c8b0 : (t185.toList == ([51, 13, 10, 97, 98, 99, 13, 10, 49, 13, 10, 100, 13, 10, 48, 13, 10, 13, 10] : List UInt8)) = true := beq_iff_eq.mpr c8
            have c8b1 : (t185.toList != ([51, 13, 10, 97, 98, 99, 13, 10, 49, 13, 10, 100, 13, 10, 48, 13, 10, 13, 10] : List UInt8)) = false := bne_eq_false_iff_eq.mpr c8
            clear c8
            obtain rfl := Option.some.inj H
            go_enter Tryd.func6, Tryd.ntmps6
            go_wp2_with (first | ((with_reducible refine gate_callee (f := 7) rfl ?_); refine goesL_ (some 10) rfl rfl Tryd.func7 (by kernel_rfl) rfl #[.string (⟨#[51, 59, 97, 61, 98, 13, 10, 97, 98, 99, 13, 10, 48, 13, 10, 88, 58, 32, 121, 13, 10, 13, 10, 122]⟩ : ByteArray)] rfl (by (try simp only [List.map_toArray, List.map_cons, List.map_nil]); first | done | rfl | (simp only [List.length_drop, List.length_take]; rfl)) ?_; (with_reducible refine (chunk_Decode.calls k (⟨#[51, 59, 97, 61, 98, 13, 10, 97, 98, 99, 13, 10, 48, 13, 10, 88, 58, 32, 121, 13, 10, 13, 10, 122]⟩ : ByteArray) t182 t183 t184 _ ?side1 A1.out).mono ?_); (case side1 => exact Glob.below hGA.out (by repeat (first | (with_reducible first | exact HB.out | apply below_alloc | apply pw_below_drewN | apply below_drew1) | exact HB.out))); rintro e w9 ⟨rfl, hb⟩; refine ⟨_, rfl, ?_⟩; have n0_ := Aside0.mk (below_step (by repeat (first | (with_reducible first | exact HB.out | apply below_alloc | apply pw_below_drewN | apply below_drew1) | exact HB.out)) hb); clear HB; have HB := n0_; clear n0_; (try clear hb); (try clear hb2); (try clear hk); (try clear hi)) | ((with_reducible refine gate_callee (f := 9) rfl ?_); refine goesL_ (some 15) rfl rfl Tryd.func9 (by kernel_rfl) rfl #[.string (⟨#[97, 98, 99, 100]⟩ : ByteArray), .int .i64 3] rfl (by (try simp only [List.map_toArray, List.map_cons, List.map_nil]); first | done | rfl | (simp only [List.length_drop, List.length_take]; rfl)) ?_; (with_reducible refine (chunk_Encode.calls k (⟨#[97, 98, 99, 100]⟩ : ByteArray) 3 t185 t186 _ ?side1 A2.out).mono ?_); (case side1 => exact Glob.below hGA.out (by repeat (first | (with_reducible first | exact HB.out | apply below_alloc | apply pw_below_drewN | apply below_drew1) | exact HB.out))); rintro e w10 ⟨rfl, hb⟩; refine ⟨_, rfl, ?_⟩; have n0_ := Aside0.mk (below_step (by repeat (first | (with_reducible first | exact HB.out | apply below_alloc | apply pw_below_drewN | apply below_drew1) | exact HB.out)) hb); clear HB; have HB := n0_; clear n0_; (try clear hb); (try clear hb2); (try clear hk); (try clear hi)) | ((with_reducible refine gate_callee (f := 7) rfl ?_); refine goesL_ (some 19) rfl rfl Tryd.func7 (by kernel_rfl) rfl #[.string (⟨#[51, 13, 10, 97, 98, 13, 10]⟩ : ByteArray)] rfl (by (try simp only [List.map_toArray, List.map_cons, List.map_nil]); first | done | rfl | (simp only [List.length_drop, List.length_take]; rfl)) ?_; (with_reducible refine (chunk_Decode.calls k (⟨#[51, 13, 10, 97, 98, 13, 10]⟩ : ByteArray) t187 t188 t189 _ ?side1 A3.out).mono ?_); (case side1 => exact Glob.below hGA.out (by repeat (first | (with_reducible first | exact HB.out | apply below_alloc | apply pw_below_drewN | apply below_drew1) | exact HB.out))); rintro e w11 ⟨rfl, hb⟩; refine ⟨_, rfl, ?_⟩; have n0_ := Aside0.mk (below_step (by repeat (first | (with_reducible first | exact HB.out | apply below_alloc | apply pw_below_drewN | apply below_drew1) | exact HB.out)) hb); clear HB; have HB := n0_; clear n0_; (try clear hb); (try clear hb2); (try clear hk); (try clear hi)))
            go_ret
            exact ⟨by first | rfl | (simp [errW_none, errW_some, bne_nil_] <;> rfl) | (simp [*, errW_none, errW_some] <;> rfl), by repeat (first | (with_reducible first | exact HB.out | apply below_alloc | apply pw_below_drewN | apply below_drew1) | exact HB.out)⟩
          · rw [if_neg c8] at H
            have c8b0 : (t185.toList == ([51, 13, 10, 97, 98, 99, 13, 10, 49, 13, 10, 100, 13, 10, 48, 13, 10, 13, 10] : List UInt8)) = false := beq_eq_false_iff_ne.mpr c8
            have c8b1 : (t185.toList != ([51, 13, 10, 97, 98, 99, 13, 10, 49, 13, 10, 100, 13, 10, 48, 13, 10, 13, 10] : List UInt8)) = true := bne_iff_ne.mpr c8
            obtain rfl := Option.some.inj H
            go_enter Tryd.func6, Tryd.ntmps6
            go_wp2_with (first | ((with_reducible refine gate_callee (f := 7) rfl ?_); refine goesL_ (some 10) rfl rfl Tryd.func7 (by kernel_rfl) rfl #[.string (⟨#[51, 59, 97, 61, 98, 13, 10, 97, 98, 99, 13, 10, 48, 13, 10, 88, 58, 32, 121, 13, 10, 13, 10, 122]⟩ : ByteArray)] rfl (by (try simp only [List.map_toArray, List.map_cons, List.map_nil]); first | done | rfl | (simp only [List.length_drop, List.length_take]; rfl)) ?_; (with_reducible refine (chunk_Decode.calls k (⟨#[51, 59, 97, 61, 98, 13, 10, 97, 98, 99, 13, 10, 48, 13, 10, 88, 58, 32, 121, 13, 10, 13, 10, 122]⟩ : ByteArray) t182 t183 t184 _ ?side1 A1.out).mono ?_); (case side1 => exact Glob.below hGA.out (by repeat (first | (with_reducible first | exact HB.out | apply below_alloc | apply pw_below_drewN | apply below_drew1) | exact HB.out))); rintro e w12 ⟨rfl, hb⟩; refine ⟨_, rfl, ?_⟩; have n0_ := Aside0.mk (below_step (by repeat (first | (with_reducible first | exact HB.out | apply below_alloc | apply pw_below_drewN | apply below_drew1) | exact HB.out)) hb); clear HB; have HB := n0_; clear n0_; (try clear hb); (try clear hb2); (try clear hk); (try clear hi)) | ((with_reducible refine gate_callee (f := 9) rfl ?_); refine goesL_ (some 15) rfl rfl Tryd.func9 (by kernel_rfl) rfl #[.string (⟨#[97, 98, 99, 100]⟩ : ByteArray), .int .i64 3] rfl (by (try simp only [List.map_toArray, List.map_cons, List.map_nil]); first | done | rfl | (simp only [List.length_drop, List.length_take]; rfl)) ?_; (with_reducible refine (chunk_Encode.calls k (⟨#[97, 98, 99, 100]⟩ : ByteArray) 3 t185 t186 _ ?side1 A2.out).mono ?_); (case side1 => exact Glob.below hGA.out (by repeat (first | (with_reducible first | exact HB.out | apply below_alloc | apply pw_below_drewN | apply below_drew1) | exact HB.out))); rintro e w13 ⟨rfl, hb⟩; refine ⟨_, rfl, ?_⟩; have n0_ := Aside0.mk (below_step (by repeat (first | (with_reducible first | exact HB.out | apply below_alloc | apply pw_below_drewN | apply below_drew1) | exact HB.out)) hb); clear HB; have HB := n0_; clear n0_; (try clear hb); (try clear hb2); (try clear hk); (try clear hi)) | ((with_reducible refine gate_callee (f := 7) rfl ?_); refine goesL_ (some 19) rfl rfl Tryd.func7 (by kernel_rfl) rfl #[.string (⟨#[51, 13, 10, 97, 98, 13, 10]⟩ : ByteArray)] rfl (by (try simp only [List.map_toArray, List.map_cons, List.map_nil]); first | done | rfl | (simp only [List.length_drop, List.length_take]; rfl)) ?_; (with_reducible refine (chunk_Decode.calls k (⟨#[51, 13, 10, 97, 98, 13, 10]⟩ : ByteArray) t187 t188 t189 _ ?side1 A3.out).mono ?_); (case side1 => exact Glob.below hGA.out (by repeat (first | (with_reducible first | exact HB.out | apply below_alloc | apply pw_below_drewN | apply below_drew1) | exact HB.out))); rintro e w14 ⟨rfl, hb⟩; refine ⟨_, rfl, ?_⟩; have n0_ := Aside0.mk (below_step (by repeat (first | (with_reducible first | exact HB.out | apply below_alloc | apply pw_below_drewN | apply below_drew1) | exact HB.out)) hb); clear HB; have HB := n0_; clear n0_; (try clear hb); (try clear hb2); (try clear hk); (try clear hi)))
            go_ret
            exact ⟨by first | rfl | (simp [errW_none, errW_some, bne_nil_] <;> rfl) | (simp [*, errW_none, errW_some] <;> rfl), by repeat (first | (with_reducible first | exact HB.out | apply below_alloc | apply pw_below_drewN | apply below_drew1) | exact HB.out)⟩
        · rw [if_neg c7] at H
          have c7b0 : (t186 == 0) = false := beq_eq_false_iff_ne.mpr c7
          have c7b1 : (t186 != 0) = true := bne_iff_ne.mpr c7
          obtain rfl := Option.some.inj H
          go_enter Tryd.func6, Tryd.ntmps6
          go_wp2_with (first | ((with_reducible refine gate_callee (f := 7) rfl ?_); refine goesL_ (some 10) rfl rfl Tryd.func7 (by kernel_rfl) rfl #[.string (⟨#[51, 59, 97, 61, 98, 13, 10, 97, 98, 99, 13, 10, 48, 13, 10, 88, 58, 32, 121, 13, 10, 13, 10, 122]⟩ : ByteArray)] rfl (by (try simp only [List.map_toArray, List.map_cons, List.map_nil]); first | done | rfl | (simp only [List.length_drop, List.length_take]; rfl)) ?_; (with_reducible refine (chunk_Decode.calls k (⟨#[51, 59, 97, 61, 98, 13, 10, 97, 98, 99, 13, 10, 48, 13, 10, 88, 58, 32, 121, 13, 10, 13, 10, 122]⟩ : ByteArray) t182 t183 t184 _ ?side1 A1.out).mono ?_); (case side1 => exact Glob.below hGA.out (by repeat (first | (with_reducible first | exact HB.out | apply below_alloc | apply pw_below_drewN | apply below_drew1) | exact HB.out))); rintro e w15 ⟨rfl, hb⟩; refine ⟨_, rfl, ?_⟩; have n0_ := Aside0.mk (below_step (by repeat (first | (with_reducible first | exact HB.out | apply below_alloc | apply pw_below_drewN | apply below_drew1) | exact HB.out)) hb); clear HB; have HB := n0_; clear n0_; (try clear hb); (try clear hb2); (try clear hk); (try clear hi)) | ((with_reducible refine gate_callee (f := 9) rfl ?_); refine goesL_ (some 15) rfl rfl Tryd.func9 (by kernel_rfl) rfl #[.string (⟨#[97, 98, 99, 100]⟩ : ByteArray), .int .i64 3] rfl (by (try simp only [List.map_toArray, List.map_cons, List.map_nil]); first | done | rfl | (simp only [List.length_drop, List.length_take]; rfl)) ?_; (with_reducible refine (chunk_Encode.calls k (⟨#[97, 98, 99, 100]⟩ : ByteArray) 3 t185 t186 _ ?side1 A2.out).mono ?_); (case side1 => exact Glob.below hGA.out (by repeat (first | (with_reducible first | exact HB.out | apply below_alloc | apply pw_below_drewN | apply below_drew1) | exact HB.out))); rintro e w16 ⟨rfl, hb⟩; refine ⟨_, rfl, ?_⟩; have n0_ := Aside0.mk (below_step (by repeat (first | (with_reducible first | exact HB.out | apply below_alloc | apply pw_below_drewN | apply below_drew1) | exact HB.out)) hb); clear HB; have HB := n0_; clear n0_; (try clear hb); (try clear hb2); (try clear hk); (try clear hi)) | ((with_reducible refine gate_callee (f := 7) rfl ?_); refine goesL_ (some 19) rfl rfl Tryd.func7 (by kernel_rfl) rfl #[.string (⟨#[51, 13, 10, 97, 98, 13, 10]⟩ : ByteArray)] rfl (by (try simp only [List.map_toArray, List.map_cons, List.map_nil]); first | done | rfl | (simp only [List.length_drop, List.length_take]; rfl)) ?_; (with_reducible refine (chunk_Decode.calls k (⟨#[51, 13, 10, 97, 98, 13, 10]⟩ : ByteArray) t187 t188 t189 _ ?side1 A3.out).mono ?_); (case side1 => exact Glob.below hGA.out (by repeat (first | (with_reducible first | exact HB.out | apply below_alloc | apply pw_below_drewN | apply below_drew1) | exact HB.out))); rintro e w17 ⟨rfl, hb⟩; refine ⟨_, rfl, ?_⟩; have n0_ := Aside0.mk (below_step (by repeat (first | (with_reducible first | exact HB.out | apply below_alloc | apply pw_below_drewN | apply below_drew1) | exact HB.out)) hb); clear HB; have HB := n0_; clear n0_; (try clear hb); (try clear hb2); (try clear hk); (try clear hi)))
          go_ret
          exact ⟨by first | rfl | (simp [errW_none, errW_some, bne_nil_] <;> rfl) | (simp [*, errW_none, errW_some] <;> rfl), by repeat (first | (with_reducible first | exact HB.out | apply below_alloc | apply pw_below_drewN | apply below_drew1) | exact HB.out)⟩
      · rw [if_neg c6] at H
        have c6b0 : (t183.toList == ([122] : List UInt8)) = false := beq_eq_false_iff_ne.mpr c6
        have c6b1 : (t183.toList != ([122] : List UInt8)) = true := bne_iff_ne.mpr c6
        obtain rfl := Option.some.inj H
        go_enter Tryd.func6, Tryd.ntmps6
        go_wp2_with (first | ((with_reducible refine gate_callee (f := 7) rfl ?_); refine goesL_ (some 10) rfl rfl Tryd.func7 (by kernel_rfl) rfl #[.string (⟨#[51, 59, 97, 61, 98, 13, 10, 97, 98, 99, 13, 10, 48, 13, 10, 88, 58, 32, 121, 13, 10, 13, 10, 122]⟩ : ByteArray)] rfl (by (try simp only [List.map_toArray, List.map_cons, List.map_nil]); first | done | rfl | (simp only [List.length_drop, List.length_take]; rfl)) ?_; (with_reducible refine (chunk_Decode.calls k (⟨#[51, 59, 97, 61, 98, 13, 10, 97, 98, 99, 13, 10, 48, 13, 10, 88, 58, 32, 121, 13, 10, 13, 10, 122]⟩ : ByteArray) t182 t183 t184 _ ?side1 A1.out).mono ?_); (case side1 => exact Glob.below hGA.out (by repeat (first | (with_reducible first | exact HB.out | apply below_alloc | apply pw_below_drewN | apply below_drew1) | exact HB.out))); rintro e w18 ⟨rfl, hb⟩; refine ⟨_, rfl, ?_⟩; have n0_ := Aside0.mk (below_step (by repeat (first | (with_reducible first | exact HB.out | apply below_alloc | apply pw_below_drewN | apply below_drew1) | exact HB.out)) hb); clear HB; have HB := n0_; clear n0_; (try clear hb); (try clear hb2); (try clear hk); (try clear hi)) | ((with_reducible refine gate_callee (f := 9) rfl ?_); refine goesL_ (some 15) rfl rfl Tryd.func9 (by kernel_rfl) rfl #[.string (⟨#[97, 98, 99, 100]⟩ : ByteArray), .int .i64 3] rfl (by (try simp only [List.map_toArray, List.map_cons, List.map_nil]); first | done | rfl | (simp only [List.length_drop, List.length_take]; rfl)) ?_; (with_reducible refine (chunk_Encode.calls k (⟨#[97, 98, 99, 100]⟩ : ByteArray) 3 t185 t186 _ ?side1 A2.out).mono ?_); (case side1 => exact Glob.below hGA.out (by repeat (first | (with_reducible first | exact HB.out | apply below_alloc | apply pw_below_drewN | apply below_drew1) | exact HB.out))); rintro e w19 ⟨rfl, hb⟩; refine ⟨_, rfl, ?_⟩; have n0_ := Aside0.mk (below_step (by repeat (first | (with_reducible first | exact HB.out | apply below_alloc | apply pw_below_drewN | apply below_drew1) | exact HB.out)) hb); clear HB; have HB := n0_; clear n0_; (try clear hb); (try clear hb2); (try clear hk); (try clear hi)) | ((with_reducible refine gate_callee (f := 7) rfl ?_); refine goesL_ (some 19) rfl rfl Tryd.func7 (by kernel_rfl) rfl #[.string (⟨#[51, 13, 10, 97, 98, 13, 10]⟩ : ByteArray)] rfl (by (try simp only [List.map_toArray, List.map_cons, List.map_nil]); first | done | rfl | (simp only [List.length_drop, List.length_take]; rfl)) ?_; (with_reducible refine (chunk_Decode.calls k (⟨#[51, 13, 10, 97, 98, 13, 10]⟩ : ByteArray) t187 t188 t189 _ ?side1 A3.out).mono ?_); (case side1 => exact Glob.below hGA.out (by repeat (first | (with_reducible first | exact HB.out | apply below_alloc | apply pw_below_drewN | apply below_drew1) | exact HB.out))); rintro e w20 ⟨rfl, hb⟩; refine ⟨_, rfl, ?_⟩; have n0_ := Aside0.mk (below_step (by repeat (first | (with_reducible first | exact HB.out | apply below_alloc | apply pw_below_drewN | apply below_drew1) | exact HB.out)) hb); clear HB; have HB := n0_; clear n0_; (try clear hb); (try clear hb2); (try clear hk); (try clear hi)))
        go_ret
        exact ⟨by first | rfl | (simp [errW_none, errW_some, bne_nil_] <;> rfl) | (simp [*, errW_none, errW_some] <;> rfl), by repeat (first | (with_reducible first | exact HB.out | apply below_alloc | apply pw_below_drewN | apply below_drew1) | exact HB.out)⟩
    · rw [if_neg c5] at H
      have c5b0 : (t182.toList == ([97, 98, 99] : List UInt8)) = false := beq_eq_false_iff_ne.mpr c5
      have c5b1 : (t182.toList != ([97, 98, 99] : List UInt8)) = true := bne_iff_ne.mpr c5
      obtain rfl := Option.some.inj H
      go_enter Tryd.func6, Tryd.ntmps6
      go_wp2_with (first | ((with_reducible refine gate_callee (f := 7) rfl ?_); refine goesL_ (some 10) rfl rfl Tryd.func7 (by kernel_rfl) rfl #[.string (⟨#[51, 59, 97, 61, 98, 13, 10, 97, 98, 99, 13, 10, 48, 13, 10, 88, 58, 32, 121, 13, 10, 13, 10, 122]⟩ : ByteArray)] rfl (by (try simp only [List.map_toArray, List.map_cons, List.map_nil]); first | done | rfl | (simp only [List.length_drop, List.length_take]; rfl)) ?_; (with_reducible refine (chunk_Decode.calls k (⟨#[51, 59, 97, 61, 98, 13, 10, 97, 98, 99, 13, 10, 48, 13, 10, 88, 58, 32, 121, 13, 10, 13, 10, 122]⟩ : ByteArray) t182 t183 t184 _ ?side1 A1.out).mono ?_); (case side1 => exact Glob.below hGA.out (by repeat (first | (with_reducible first | exact HB.out | apply below_alloc | apply pw_below_drewN | apply below_drew1) | exact HB.out))); rintro e w21 ⟨rfl, hb⟩; refine ⟨_, rfl, ?_⟩; have n0_ := Aside0.mk (below_step (by repeat (first | (with_reducible first | exact HB.out | apply below_alloc | apply pw_below_drewN | apply below_drew1) | exact HB.out)) hb); clear HB; have HB := n0_; clear n0_; (try clear hb); (try clear hb2); (try clear hk); (try clear hi)) | ((with_reducible refine gate_callee (f := 9) rfl ?_); refine goesL_ (some 15) rfl rfl Tryd.func9 (by kernel_rfl) rfl #[.string (⟨#[97, 98, 99, 100]⟩ : ByteArray), .int .i64 3] rfl (by (try simp only [List.map_toArray, List.map_cons, List.map_nil]); first | done | rfl | (simp only [List.length_drop, List.length_take]; rfl)) ?_; (with_reducible refine (chunk_Encode.calls k (⟨#[97, 98, 99, 100]⟩ : ByteArray) 3 t185 t186 _ ?side1 A2.out).mono ?_); (case side1 => exact Glob.below hGA.out (by repeat (first | (with_reducible first | exact HB.out | apply below_alloc | apply pw_below_drewN | apply below_drew1) | exact HB.out))); rintro e w22 ⟨rfl, hb⟩; refine ⟨_, rfl, ?_⟩; have n0_ := Aside0.mk (below_step (by repeat (first | (with_reducible first | exact HB.out | apply below_alloc | apply pw_below_drewN | apply below_drew1) | exact HB.out)) hb); clear HB; have HB := n0_; clear n0_; (try clear hb); (try clear hb2); (try clear hk); (try clear hi)) | ((with_reducible refine gate_callee (f := 7) rfl ?_); refine goesL_ (some 19) rfl rfl Tryd.func7 (by kernel_rfl) rfl #[.string (⟨#[51, 13, 10, 97, 98, 13, 10]⟩ : ByteArray)] rfl (by (try simp only [List.map_toArray, List.map_cons, List.map_nil]); first | done | rfl | (simp only [List.length_drop, List.length_take]; rfl)) ?_; (with_reducible refine (chunk_Decode.calls k (⟨#[51, 13, 10, 97, 98, 13, 10]⟩ : ByteArray) t187 t188 t189 _ ?side1 A3.out).mono ?_); (case side1 => exact Glob.below hGA.out (by repeat (first | (with_reducible first | exact HB.out | apply below_alloc | apply pw_below_drewN | apply below_drew1) | exact HB.out))); rintro e w23 ⟨rfl, hb⟩; refine ⟨_, rfl, ?_⟩; have n0_ := Aside0.mk (below_step (by repeat (first | (with_reducible first | exact HB.out | apply below_alloc | apply pw_below_drewN | apply below_drew1) | exact HB.out)) hb); clear HB; have HB := n0_; clear n0_; (try clear hb); (try clear hb2); (try clear hk); (try clear hi)))
      go_ret
      exact ⟨by first | rfl | (simp [errW_none, errW_some, bne_nil_] <;> rfl) | (simp [*, errW_none, errW_some] <;> rfl), by repeat (first | (with_reducible first | exact HB.out | apply below_alloc | apply pw_below_drewN | apply below_drew1) | exact HB.out)⟩
  · rw [if_neg c4] at H
    have c4b0 : (t184 == 0) = false := beq_eq_false_iff_ne.mpr c4
    have c4b1 : (t184 != 0) = true := bne_iff_ne.mpr c4
    obtain rfl := Option.some.inj H
    go_enter Tryd.func6, Tryd.ntmps6
    go_wp2_with (first | ((with_reducible refine gate_callee (f := 7) rfl ?_); refine goesL_ (some 10) rfl rfl Tryd.func7 (by kernel_rfl) rfl #[.string (⟨#[51, 59, 97, 61, 98, 13, 10, 97, 98, 99, 13, 10, 48, 13, 10, 88, 58, 32, 121, 13, 10, 13, 10, 122]⟩ : ByteArray)] rfl (by (try simp only [List.map_toArray, List.map_cons, List.map_nil]); first | done | rfl | (simp only [List.length_drop, List.length_take]; rfl)) ?_; (with_reducible refine (chunk_Decode.calls k (⟨#[51, 59, 97, 61, 98, 13, 10, 97, 98, 99, 13, 10, 48, 13, 10, 88, 58, 32, 121, 13, 10, 13, 10, 122]⟩ : ByteArray) t182 t183 t184 _ ?side1 A1.out).mono ?_); (case side1 => exact Glob.below hGA.out (by repeat (first | (with_reducible first | exact HB.out | apply below_alloc | apply pw_below_drewN | apply below_drew1) | exact HB.out))); rintro e w24 ⟨rfl, hb⟩; refine ⟨_, rfl, ?_⟩; have n0_ := Aside0.mk (below_step (by repeat (first | (with_reducible first | exact HB.out | apply below_alloc | apply pw_below_drewN | apply below_drew1) | exact HB.out)) hb); clear HB; have HB := n0_; clear n0_; (try clear hb); (try clear hb2); (try clear hk); (try clear hi)) | ((with_reducible refine gate_callee (f := 9) rfl ?_); refine goesL_ (some 15) rfl rfl Tryd.func9 (by kernel_rfl) rfl #[.string (⟨#[97, 98, 99, 100]⟩ : ByteArray), .int .i64 3] rfl (by (try simp only [List.map_toArray, List.map_cons, List.map_nil]); first | done | rfl | (simp only [List.length_drop, List.length_take]; rfl)) ?_; (with_reducible refine (chunk_Encode.calls k (⟨#[97, 98, 99, 100]⟩ : ByteArray) 3 t185 t186 _ ?side1 A2.out).mono ?_); (case side1 => exact Glob.below hGA.out (by repeat (first | (with_reducible first | exact HB.out | apply below_alloc | apply pw_below_drewN | apply below_drew1) | exact HB.out))); rintro e w25 ⟨rfl, hb⟩; refine ⟨_, rfl, ?_⟩; have n0_ := Aside0.mk (below_step (by repeat (first | (with_reducible first | exact HB.out | apply below_alloc | apply pw_below_drewN | apply below_drew1) | exact HB.out)) hb); clear HB; have HB := n0_; clear n0_; (try clear hb); (try clear hb2); (try clear hk); (try clear hi)) | ((with_reducible refine gate_callee (f := 7) rfl ?_); refine goesL_ (some 19) rfl rfl Tryd.func7 (by kernel_rfl) rfl #[.string (⟨#[51, 13, 10, 97, 98, 13, 10]⟩ : ByteArray)] rfl (by (try simp only [List.map_toArray, List.map_cons, List.map_nil]); first | done | rfl | (simp only [List.length_drop, List.length_take]; rfl)) ?_; (with_reducible refine (chunk_Decode.calls k (⟨#[51, 13, 10, 97, 98, 13, 10]⟩ : ByteArray) t187 t188 t189 _ ?side1 A3.out).mono ?_); (case side1 => exact Glob.below hGA.out (by repeat (first | (with_reducible first | exact HB.out | apply below_alloc | apply pw_below_drewN | apply below_drew1) | exact HB.out))); rintro e w26 ⟨rfl, hb⟩; refine ⟨_, rfl, ?_⟩; have n0_ := Aside0.mk (below_step (by repeat (first | (with_reducible first | exact HB.out | apply below_alloc | apply pw_below_drewN | apply below_drew1) | exact HB.out)) hb); clear HB; have HB := n0_; clear n0_; (try clear hb); (try clear hb2); (try clear hk); (try clear hi)))
    go_ret
    exact ⟨by first | rfl | (simp [errW_none, errW_some, bne_nil_] <;> rfl) | (simp [*, errW_none, errW_some] <;> rfl), by repeat (first | (with_reducible first | exact HB.out | apply below_alloc | apply pw_below_drewN | apply below_drew1) | exact HB.out)⟩

end Go.Proofs.YteonhdfjfjpbjaaDoor.P

/- Px16 -/
namespace Go.Proofs.YteonhdfjfjpbjaaDoor.P
open Go.Proofs.YteonhdfjfjpbjaaDoor.B
open Go.RowKit Go.Proofs.YteonhdfjfjpbjaaDoorW.PrintWords Go.Proofs.YteonhdfjfjpbjaaDoorW.PrintLast Go.Proofs.YteonhdfjfjpbjaaDoorW.PrintMore
attribute [local go_sem] str_leq str_gtr str_geq max2_int min2_int max_two min_two max_three min_three max_four min_four   -- for this text's walks alone
set_option linter.unusedVariables false
set_option linter.unusedSimpArgs false

/-! ### broadsheetref18_line: function 32 -/
def broadsheetref18_line.l0 : Nat → ByteArray → Int → Option (Int)
  | 0, _, _ => none
  | k + 1, x0, x3 => if (wrap64 (x3 + 1)) < (x0.size : Int) then (if 0 ≤ x3 then (if x3 < (x0.size : Int) then (if (bt x0 x3) = 13 then (if 0 ≤ (wrap64 (x3 + 1)) then (if (bt x0 (wrap64 (x3 + 1))) = 10 then (some x3) else (broadsheetref18_line.l0 k x0 (wrap64 (x3 + 1)))) else (none)) else (broadsheetref18_line.l0 k x0 (wrap64 (x3 + 1)))) else (none)) else (none)) else (some (-1))
def broadsheetref18_line.f (k : Nat) (a0 : ByteArray) : Option (Int) := broadsheetref18_line.l0 k a0 0
theorem broadsheetref18_line.mono_l : ∀ k, (∀ y0 y1, LeO (broadsheetref18_line.l0 k y0 y1) (broadsheetref18_line.l0 (k + 1) y0 y1))
  | 0 => fun _ _ r h => by simp [broadsheetref18_line.l0] at h
  | k + 1 => by
    have ih0 := broadsheetref18_line.mono_l k
    · intro y0 y1
      unfold broadsheetref18_line.l0
      repeat' first
      | (with_reducible exact ih0 _ _)
      | (with_reducible exact LeO.refl _)
      | (with_reducible exact LeO.none _)
      | (with_reducible refine LeO.ite ?_ ?_)
      | (with_reducible refine LeO.bind ?_ (fun _ => ?_))
      | exact ih0 _ _
      | exact LeO.none _
      | refine LeO.ite ?_ ?_
      | refine LeO.bind ?_ (fun _ => ?_)
theorem broadsheetref18_line.mono : ∀ a0 k, LeO (broadsheetref18_line.f k a0) (broadsheetref18_line.f (k + 1) a0) := by
  intro a0 k
  have ih0 := broadsheetref18_line.mono_l k
  unfold broadsheetref18_line.f
  repeat' first
      | (with_reducible exact ih0 _ _)
      | (with_reducible exact LeO.refl _)
      | (with_reducible exact LeO.none _)
      | (with_reducible refine LeO.ite ?_ ?_)
      | (with_reducible refine LeO.bind ?_ (fun _ => ?_))
      | exact ih0 _ _
      | exact LeO.none _
      | refine LeO.ite ?_ ?_
      | refine LeO.bind ?_ (fun _ => ?_)
set_option maxHeartbeats 8000000 in
set_option maxRecDepth 100000 in
theorem broadsheetref18_line.calls (k : Nat) (a0 : ByteArray) (r : Int) (w : World) (h : broadsheetref18_line.f k a0 = some r) :
    Calls Tryd.prog 32 #[.string a0] w fun e w' => e = .returned (.int .i64 r) ∧ Drawn0 w w' := by
  have H : (broadsheetref18_line.l0 k a0 0) = some r := h
  clear h
  have H' := Aside0.mk H
  clear H
  go_enter Tryd.func32, Tryd.ntmps32
  go_wp2
  first | go_loopg [3] k (fun kq v3 w' => ∃ (x3_1 : Int), v3 = .int .i64 x3_1 ∧ Aside0 (broadsheetref18_line.l0 kq a0 x3_1 = some r) ∧ Aside0 (kq ≤ k) ∧ Drawn0 w w') | (go_simp; go_loopg [3] k (fun kq v3 w' => ∃ (x3_1 : Int), v3 = .int .i64 x3_1 ∧ Aside0 (broadsheetref18_line.l0 kq a0 x3_1 = some r) ∧ Aside0 (kq ≤ k) ∧ Drawn0 w w'))
  case atStart => exact ⟨(0), (by first | rfl | (simp; done) | (simp [*]; done)), H', ⟨Nat.le_refl _⟩, by repeat (first | exact Drawn0.refl _ | apply Drawn0.step)⟩
  case round =>
    clear H'
    obtain ⟨x3_1, rfl, HA, HK1, ⟨m1, rfl⟩⟩ := hrel
    cases gk with
    | zero => exact absurd HA.out (by simp [broadsheetref18_line.l0])
    | succ k1 =>
      have H := HA.out
      clear HA
      simp only [broadsheetref18_line.l0] at H
      by_cases c2 : (wrap64 (x3_1 + 1)) < (a0.size : Int)
      · rw [if_pos c2] at H
        have c2b0 : decide ((wrap64 (x3_1 + 1)) < (a0.size : Int)) = true := decide_eq_true c2
        clear c2
        by_cases c3 : 0 ≤ x3_1
        · rw [if_pos c3] at H
          have c3b0 : decide (0 ≤ x3_1) = true := decide_eq_true c3
          clear c3
          by_cases c4 : x3_1 < (a0.size : Int)
          · rw [if_pos c4] at H
            have c4b0 : decide (x3_1 < (a0.size : Int)) = true := decide_eq_true c4
            clear c4
            by_cases c6 : (bt a0 x3_1) = 13
            · rw [if_pos c6] at H
              have c6b0 : ((bt a0 x3_1) == 13) = true := beq_iff_eq.mpr c6
              have c6b1 : ((bt a0 x3_1) != 13) = false := bne_eq_false_iff_eq.mpr c6
              clear c6
              obtain ⟨ji7, hji7⟩ : ∃ j_ : Int, (wrap64 (x3_1 + 1)) = j_ := ⟨_, rfl⟩
              replace H : (if 0 ≤ (ji7) then (if (bt a0 (ji7)) = 10 then (some x3_1) else (broadsheetref18_line.l0 k1 a0 ji7)) else (none)) = some r := by first | (rw [hji7] at H; exact H) | (simp only [hji7] at H ⊢; exact H)
              (try rw [hji7] at c2b0)
              have hji7w : (IntKind.i64.wrap (x3_1 + 1)) = ji7 := (i64_w _).trans hji7
              by_cases c8 : 0 ≤ (ji7)
              · rw [if_pos c8] at H
                have c8b0 : decide (0 ≤ (ji7)) = true := decide_eq_true c8
                clear c8
                by_cases c10 : (bt a0 (ji7)) = 10
                · rw [if_pos c10] at H
                  have c10b0 : ((bt a0 (ji7)) == 10) = true := beq_iff_eq.mpr c10
                  have c10b1 : ((bt a0 (ji7)) != 10) = false := bne_eq_false_iff_eq.mpr c10
                  clear c10
                  obtain rfl := Option.some.inj H
                  have p5 : 0 ≤ (x3_1 : Int) := of_decide_eq_true (by first | (with_reducible assumption) | assumption)
                  have q5 : x3_1 < (a0.size : Int) := of_decide_eq_true (by first | (with_reducible assumption) | assumption)
                  have hx5 := bt_at a0 x3_1
                  replace p5 := eq_true p5
                  replace q5 := eq_true q5
                  have p9 : 0 ≤ ((ji7) : Int) := of_decide_eq_true (by first | (with_reducible assumption) | assumption)
                  have q9 : (ji7) < (a0.size : Int) := of_decide_eq_true (by first | (with_reducible assumption) | assumption)
                  have hx9 := bt_at a0 (ji7)
                  replace p9 := eq_true p9
                  replace q9 := eq_true q9
                  go_wp2
                  go_ret
                  exact ⟨by first | rfl | (simp; done) | (simp only [← hji7] <;> (first | rfl | simp)) | (simp [*]; done), by repeat (first | exact Drawn0.refl _ | apply Drawn0.step)⟩
                · rw [if_neg c10] at H
                  have c10b0 : ((bt a0 (ji7)) == 10) = false := beq_eq_false_iff_ne.mpr c10
                  have c10b1 : ((bt a0 (ji7)) != 10) = true := bne_iff_ne.mpr c10
                  have H' := Aside0.mk H
                  clear H
                  have p5 : 0 ≤ (x3_1 : Int) := of_decide_eq_true (by first | (with_reducible assumption) | assumption)
                  have q5 : x3_1 < (a0.size : Int) := of_decide_eq_true (by first | (with_reducible assumption) | assumption)
                  have hx5 := bt_at a0 x3_1
                  replace p5 := eq_true p5
                  replace q5 := eq_true q5
                  have p9 : 0 ≤ ((ji7) : Int) := of_decide_eq_true (by first | (with_reducible assumption) | assumption)
                  have q9 : (ji7) < (a0.size : Int) := of_decide_eq_true (by first | (with_reducible assumption) | assumption)
                  have hx9 := bt_at a0 (ji7)
                  replace p9 := eq_true p9
                  replace q9 := eq_true q9
                  go_wp2
                  go_roundg k1
                  case measure => have := HK1.out; omega
                  case rel => exact ⟨(ji7), (by first | rfl | (simp; done) | (simp only [← hji7] <;> (first | rfl | simp)) | (simp [*]; done)), H', ⟨by have := HK1.out; omega⟩, by repeat (first | exact Drawn0.refl _ | apply Drawn0.step)⟩
              · rw [if_neg c8] at H
                exact absurd H (by simp)
            · rw [if_neg c6] at H
              have c6b0 : ((bt a0 x3_1) == 13) = false := beq_eq_false_iff_ne.mpr c6
              have c6b1 : ((bt a0 x3_1) != 13) = true := bne_iff_ne.mpr c6
              have H' := Aside0.mk H
              clear H
              have p5 : 0 ≤ (x3_1 : Int) := of_decide_eq_true (by first | (with_reducible assumption) | assumption)
              have q5 : x3_1 < (a0.size : Int) := of_decide_eq_true (by first | (with_reducible assumption) | assumption)
              have hx5 := bt_at a0 x3_1
              replace p5 := eq_true p5
              replace q5 := eq_true q5
              go_wp2
              go_roundg k1
              case measure => have := HK1.out; omega
              case rel => exact ⟨(wrap64 (x3_1 + 1)), (by first | rfl | (simp; done) | (simp [*]; done)), H', ⟨by have := HK1.out; omega⟩, by repeat (first | exact Drawn0.refl _ | apply Drawn0.step)⟩
          · rw [if_neg c4] at H
            exact absurd H (by simp)
        · rw [if_neg c3] at H
          exact absurd H (by simp)
      · rw [if_neg c2] at H
        have c2b0 : decide ((wrap64 (x3_1 + 1)) < (a0.size : Int)) = false := decide_eq_false c2
        clear c2
        obtain rfl := Option.some.inj H
        go_wp2
        go_ret
        exact ⟨by first | rfl | (simp; done) | (simp [*]; done), by repeat (first | exact Drawn0.refl _ | apply Drawn0.step)⟩

end Go.Proofs.YteonhdfjfjpbjaaDoor.P

/- Px17 -/
namespace Go.Proofs.YteonhdfjfjpbjaaDoor.P
open Go.Proofs.YteonhdfjfjpbjaaDoor.B
open Go.RowKit Go.Proofs.YteonhdfjfjpbjaaDoorW.PrintWords Go.Proofs.YteonhdfjfjpbjaaDoorW.PrintLast Go.Proofs.YteonhdfjfjpbjaaDoorW.PrintMore
attribute [local go_sem] str_leq str_gtr str_geq max2_int min2_int max_two min_two max_three min_three max_four min_four   -- for this text's walks alone
set_option linter.unusedVariables false
set_option linter.unusedSimpArgs false

/-! ### broadsheetref18_Line: function 18 -/
def broadsheetref18_Line.f (k : Nat) (a0 : ByteArray) : Option (ByteArray × ByteArray × Bool) := (broadsheetref18_line.f k a0).bind fun t190 => (if t190 < 0 then (some ((⟨#[]⟩ : ByteArray), (⟨#[]⟩ : ByteArray), false)) else (if 0 ≤ t190 then (if t190 ≤ (a0.size : Int) then (if 0 ≤ (wrap64 (t190 + 2)) then (if (wrap64 (t190 + 2)) ≤ (a0.size : Int) then (some (a0.extract 0 (t190 : Int).toNat, a0.extract ((wrap64 (t190 + 2)) : Int).toNat a0.size, true)) else (none)) else (none)) else (none)) else (none)))
theorem broadsheetref18_Line.mono : ∀ a0 k, LeO (broadsheetref18_Line.f k a0) (broadsheetref18_Line.f (k + 1) a0) := by
  intro a0 k
  unfold broadsheetref18_Line.f
  repeat' first
      | (with_reducible exact broadsheetref18_line.mono _ _)
      | (with_reducible exact LeO.refl _)
      | (with_reducible exact LeO.none _)
      | (with_reducible refine LeO.ite ?_ ?_)
      | (with_reducible refine LeO.bind ?_ (fun _ => ?_))
      | exact broadsheetref18_line.mono _ _
      | exact LeO.none _
      | refine LeO.ite ?_ ?_
      | refine LeO.bind ?_ (fun _ => ?_)
set_option maxHeartbeats 8000000 in
set_option maxRecDepth 100000 in
theorem broadsheetref18_Line.calls (k : Nat) (a0 : ByteArray) (r1 : ByteArray) (r2 : ByteArray) (r3 : Bool) (w : World) (h : broadsheetref18_Line.f k a0 = some (r1, r2, r3)) :
    Calls Tryd.prog 18 #[.string a0] w fun e w' => e = .returned (.tuple #[.string r1, .string r2, .bool r3]) ∧ Drawn0 w w' := by
  have H : ((broadsheetref18_line.f k a0).bind fun t190 => (if t190 < 0 then (some ((⟨#[]⟩ : ByteArray), (⟨#[]⟩ : ByteArray), false)) else (if 0 ≤ t190 then (if t190 ≤ (a0.size : Int) then (if 0 ≤ (wrap64 (t190 + 2)) then (if (wrap64 (t190 + 2)) ≤ (a0.size : Int) then (some (a0.extract 0 (t190 : Int).toNat, a0.extract ((wrap64 (t190 + 2)) : Int).toNat a0.size, true)) else (none)) else (none)) else (none)) else (none)))) = some (r1, r2, r3) := h
  clear h
  replace H := Option.bind_eq_some_iff.mp H
  obtain ⟨t190, A20, H⟩ := H
  replace H : (if t190 < 0 then (some ((⟨#[]⟩ : ByteArray), (⟨#[]⟩ : ByteArray), false)) else (if 0 ≤ t190 then (if t190 ≤ (a0.size : Int) then (if 0 ≤ (wrap64 (t190 + 2)) then (if (wrap64 (t190 + 2)) ≤ (a0.size : Int) then (some (a0.extract 0 (t190 : Int).toNat, a0.extract ((wrap64 (t190 + 2)) : Int).toNat a0.size, true)) else (none)) else (none)) else (none)) else (none))) = some (r1, r2, r3) := H
  have A2 := Aside0.mk A20
  clear A20
  by_cases c3 : t190 < 0
  · rw [if_pos c3] at H
    have c3b0 : decide (t190 < 0) = true := decide_eq_true c3
    clear c3
    simp only [Option.some.injEq, Prod.mk.injEq] at H
    obtain ⟨rfl, rfl, rfl⟩ := H
    go_enter Tryd.func18, Tryd.ntmps18
    go_wp2_with (first | (go_at_call 32; (with_reducible refine (broadsheetref18_line.calls k a0 t190 _ A2.out).mono ?_); rintro e w' ⟨rfl, ⟨nd, rfl⟩⟩; (try first | exact ⟨rfl, _, World.drewN_drewN _ _ _⟩ | exact ⟨rfl, _, Eq.trans (World.drewN_drewN _ _ _) (congrArg (World.drewN _) (Nat.add_assoc _ _ _))⟩)))
    repeat (go_quiet (first | (go_at_call 32; (with_reducible refine (broadsheetref18_line.calls k a0 t190 _ A2.out).mono ?_); rintro e w' ⟨rfl, ⟨nd, rfl⟩⟩; (try first | exact ⟨rfl, _, World.drewN_drewN _ _ _⟩ | exact ⟨rfl, _, Eq.trans (World.drewN_drewN _ _ _) (congrArg (World.drewN _) (Nat.add_assoc _ _ _))⟩))); try go_wp2_with (first | (go_at_call 32; (with_reducible refine (broadsheetref18_line.calls k a0 t190 _ A2.out).mono ?_); rintro e w' ⟨rfl, ⟨nd, rfl⟩⟩; (try first | exact ⟨rfl, _, World.drewN_drewN _ _ _⟩ | exact ⟨rfl, _, Eq.trans (World.drewN_drewN _ _ _) (congrArg (World.drewN _) (Nat.add_assoc _ _ _))⟩))))
    go_ret3
    exact ⟨by first | rfl | (simp; done) | (simp [*]; done), by repeat (first | exact Drawn0.refl _ | apply Drawn0.step)⟩
  · rw [if_neg c3] at H
    have c3b0 : decide (t190 < 0) = false := decide_eq_false c3
    clear c3
    by_cases c4 : 0 ≤ t190
    · rw [if_pos c4] at H
      have c4b0 := eq_true c4
      have c4b1 : decide (0 ≤ t190) = true := decide_eq_true c4
      clear c4
      by_cases c5 : t190 ≤ (a0.size : Int)
      · rw [if_pos c5] at H
        have c5b0 := eq_true c5
        have c5b1 : decide (t190 ≤ (a0.size : Int)) = true := decide_eq_true c5
        clear c5
        obtain ⟨ji6, hji6⟩ : ∃ j_ : Int, (wrap64 (t190 + 2)) = j_ := ⟨_, rfl⟩
        replace H : (if 0 ≤ (ji6) then (if (ji6) ≤ (a0.size : Int) then (some (a0.extract 0 (t190 : Int).toNat, a0.extract ((ji6) : Int).toNat a0.size, true)) else (none)) else (none)) = some (r1, r2, r3) := by first | (rw [hji6] at H; exact H) | (simp only [hji6] at H ⊢; exact H)
        (try rw [hji6] at A2)
        have hji6w : (IntKind.i64.wrap (t190 + 2)) = ji6 := (i64_w _).trans hji6
        by_cases c7 : 0 ≤ (ji6)
        · rw [if_pos c7] at H
          have c7b0 := eq_true c7
          have c7b1 : decide (0 ≤ (ji6)) = true := decide_eq_true c7
          clear c7
          by_cases c8 : (ji6) ≤ (a0.size : Int)
          · rw [if_pos c8] at H
            have c8b0 := eq_true c8
            have c8b1 : decide ((ji6) ≤ (a0.size : Int)) = true := decide_eq_true c8
            clear c8
            simp only [Option.some.injEq, Prod.mk.injEq] at H
            obtain ⟨rfl, rfl, rfl⟩ := H
            go_enter Tryd.func18, Tryd.ntmps18
            go_wp2_with (first | (go_at_call 32; (with_reducible refine (broadsheetref18_line.calls k a0 t190 _ A2.out).mono ?_); rintro e w' ⟨rfl, ⟨nd, rfl⟩⟩; (try first | exact ⟨rfl, _, World.drewN_drewN _ _ _⟩ | exact ⟨rfl, _, Eq.trans (World.drewN_drewN _ _ _) (congrArg (World.drewN _) (Nat.add_assoc _ _ _))⟩)))
            repeat (go_quiet (first | (go_at_call 32; (with_reducible refine (broadsheetref18_line.calls k a0 t190 _ A2.out).mono ?_); rintro e w' ⟨rfl, ⟨nd, rfl⟩⟩; (try first | exact ⟨rfl, _, World.drewN_drewN _ _ _⟩ | exact ⟨rfl, _, Eq.trans (World.drewN_drewN _ _ _) (congrArg (World.drewN _) (Nat.add_assoc _ _ _))⟩))); try go_wp2_with (first | (go_at_call 32; (with_reducible refine (broadsheetref18_line.calls k a0 t190 _ A2.out).mono ?_); rintro e w' ⟨rfl, ⟨nd, rfl⟩⟩; (try first | exact ⟨rfl, _, World.drewN_drewN _ _ _⟩ | exact ⟨rfl, _, Eq.trans (World.drewN_drewN _ _ _) (congrArg (World.drewN _) (Nat.add_assoc _ _ _))⟩))))
            go_ret3
            exact ⟨by first | rfl | (simp; done) | (simp only [← hji6] <;> (first | rfl | simp)) | (simp [*]; done), by repeat (first | exact Drawn0.refl _ | apply Drawn0.step)⟩
          · rw [if_neg c8] at H
            exact absurd H (by simp)
        · rw [if_neg c7] at H
          exact absurd H (by simp)
      · rw [if_neg c5] at H
        exact absurd H (by simp)
    · rw [if_neg c4] at H
      exact absurd H (by simp)

end Go.Proofs.YteonhdfjfjpbjaaDoor.P

/- Px18 -/
namespace Go.Proofs.YteonhdfjfjpbjaaDoor.P
open Go.Proofs.YteonhdfjfjpbjaaDoor.B
open Go.RowKit Go.Proofs.YteonhdfjfjpbjaaDoorW.PrintWords Go.Proofs.YteonhdfjfjpbjaaDoorW.PrintLast Go.Proofs.YteonhdfjfjpbjaaDoorW.PrintMore
attribute [local go_sem] str_leq str_gtr str_geq max2_int min2_int max_two min_two max_three min_three max_four min_four   -- for this text's walks alone
set_option linter.unusedVariables false
set_option linter.unusedSimpArgs false

/-! ### broadsheetref19_hex: function 33 -/
mutual
def broadsheetref19_hex.j0 : Nat → Int → Bool → Option (Int)
  | 0, _, _ => none
  | k + 1, x0, x3 => if x3 = true then (some (wrap64 ((wrap64 (x0)) - 48))) else (if x0 ≥ 65 then (broadsheetref19_hex.j1 k x0 (decide (x0 ≤ 70))) else (broadsheetref19_hex.j1 k x0 false))
def broadsheetref19_hex.j1 : Nat → Int → Bool → Option (Int)
  | 0, _, _ => none
  | k + 1, x0, x13 => if x13 = true then (some (wrap64 ((wrap64 (x0)) - 55))) else (if x0 ≥ 97 then (if x0 ≤ 102 then (some (wrap64 ((wrap64 (x0)) - 87))) else (some (-1))) else (some (-1)))
end
def broadsheetref19_hex.f (k : Nat) (a0 : Int) : Option (Int) := if a0 ≥ 48 then (broadsheetref19_hex.j0 k a0 (decide (a0 ≤ 57))) else (broadsheetref19_hex.j0 k a0 false)
theorem broadsheetref19_hex.mono_l : ∀ k, (∀ y0 y1, LeO (broadsheetref19_hex.j0 k y0 y1) (broadsheetref19_hex.j0 (k + 1) y0 y1)) ∧ (∀ y0 y1, LeO (broadsheetref19_hex.j1 k y0 y1) (broadsheetref19_hex.j1 (k + 1) y0 y1))
  | 0 => ⟨fun _ _ r h => by simp [broadsheetref19_hex.j0] at h, fun _ _ r h => by simp [broadsheetref19_hex.j1] at h⟩
  | k + 1 => by
    obtain ⟨ih0, ih1⟩ := broadsheetref19_hex.mono_l k
    refine ⟨?_, ?_⟩
    · intro y0 y1
      unfold broadsheetref19_hex.j0
      repeat' first
      | (with_reducible exact ih0 _ _)
      | (with_reducible exact ih1 _ _)
      | (with_reducible exact LeO.refl _)
      | (with_reducible exact LeO.none _)
      | (with_reducible refine LeO.ite ?_ ?_)
      | (with_reducible refine LeO.bind ?_ (fun _ => ?_))
      | exact ih0 _ _
      | exact ih1 _ _
      | exact LeO.none _
      | refine LeO.ite ?_ ?_
      | refine LeO.bind ?_ (fun _ => ?_)
    · intro y0 y1
      unfold broadsheetref19_hex.j1
      repeat' first
      | (with_reducible exact ih0 _ _)
      | (with_reducible exact ih1 _ _)
      | (with_reducible exact LeO.refl _)
      | (with_reducible exact LeO.none _)
      | (with_reducible refine LeO.ite ?_ ?_)
      | (with_reducible refine LeO.bind ?_ (fun _ => ?_))
      | exact ih0 _ _
      | exact ih1 _ _
      | exact LeO.none _
      | refine LeO.ite ?_ ?_
      | refine LeO.bind ?_ (fun _ => ?_)
theorem broadsheetref19_hex.mono : ∀ a0 k, LeO (broadsheetref19_hex.f k a0) (broadsheetref19_hex.f (k + 1) a0) := by
  intro a0 k
  obtain ⟨ih0, ih1⟩ := broadsheetref19_hex.mono_l k
  unfold broadsheetref19_hex.f
  repeat' first
      | (with_reducible exact ih0 _ _)
      | (with_reducible exact ih1 _ _)
      | (with_reducible exact LeO.refl _)
      | (with_reducible exact LeO.none _)
      | (with_reducible refine LeO.ite ?_ ?_)
      | (with_reducible refine LeO.bind ?_ (fun _ => ?_))
      | exact ih0 _ _
      | exact ih1 _ _
      | exact LeO.none _
      | refine LeO.ite ?_ ?_
      | refine LeO.bind ?_ (fun _ => ?_)
set_option maxHeartbeats 8000000 in
set_option maxRecDepth 100000 in
theorem broadsheetref19_hex.calls (k : Nat) (a0 : Int) (r : Int) (w : World) (h : broadsheetref19_hex.f k a0 = some r) :
    Calls Tryd.prog 33 #[.int .u8 a0] w fun e w' => e = .returned (.int .i64 r) ∧ Drawn0 w w' := by
  have H : (if a0 ≥ 48 then (broadsheetref19_hex.j0 k a0 (decide (a0 ≤ 57))) else (broadsheetref19_hex.j0 k a0 false)) = some r := h
  clear h
  have HC2 := Aside0.mk H
  clear H
  go_enter Tryd.func33, Tryd.ntmps33
  go_upto_region 1 with (fail)
  go_cut [3] (fun v3 wc => ∃ (kq : Nat) (x3_1 : Bool), v3 = .bool x3_1 ∧ Aside0 (broadsheetref19_hex.j0 kq a0 x3_1 = some r) ∧ Aside0 (kq ≤ k) ∧ Drawn0 w wc)
  case first =>
    have H := HC2.out
    clear HC2
    by_cases c3 : a0 ≥ 48
    · rw [if_pos c3] at H
      have c3b0 : decide (48 ≤ a0) = true := decide_eq_true c3
      clear c3
      (first | rw [c3b0] | (simp only [i64_w, i32_w]; rw [c3b0]) | skip)
      have H' := Aside0.mk H
      clear H
      go_wp2
      go_meet
      case rel => exact ⟨_, (decide (a0 ≤ 57)), (by first | rfl | (simp; done) | (simp [*]; done)), H', ⟨by first | omega | exact Nat.le_refl _⟩, by repeat (first | exact Drawn0.refl _ | apply Drawn0.step)⟩
    · rw [if_neg c3] at H
      have c3b0 : decide (48 ≤ a0) = false := decide_eq_false c3
      clear c3
      (first | rw [c3b0] | (simp only [i64_w, i32_w]; rw [c3b0]) | skip)
      have H' := Aside0.mk H
      clear H
      go_wp2
      go_meet
      case rel => exact ⟨_, (false), (by first | rfl | (simp; done) | (simp [*]; done)), H', ⟨by first | omega | exact Nat.le_refl _⟩, by repeat (first | exact Drawn0.refl _ | apply Drawn0.step)⟩
  case rest =>
    clear HC2
    try clear p2
    try clear c3
    try clear c3b0
    obtain ⟨kq, x3_1, rfl, HA, HJ1, ⟨mc1, rfl⟩⟩ := hcut
    cases kq with
    | zero => exact absurd HA.out (by simp [broadsheetref19_hex.j0])
    | succ kj1 =>
      have H := HA.out
      clear HA
      simp only [broadsheetref19_hex.j0] at H
      by_cases c4 : x3_1 = true
      · subst c4
        have H1 : (some (wrap64 ((wrap64 (a0)) - 48))) = some r := by rw [if_pos rfl] at H; exact H
        clear H
        have H := H1
        clear H1
        obtain rfl := Option.some.inj H
        go_wp2
        go_ret
        exact ⟨by first | rfl | (simp; done) | (simp [*]; done), by repeat (first | exact Drawn0.refl _ | apply Drawn0.step)⟩
      · replace c4 := Bool.eq_false_iff.mpr c4
        subst c4
        have H1 : (if a0 ≥ 65 then (broadsheetref19_hex.j1 kj1 a0 (decide (a0 ≤ 70))) else (broadsheetref19_hex.j1 kj1 a0 false)) = some r := by rw [if_neg (show ¬ (false = true) by decide)] at H; exact H
        clear H
        have H := H1
        clear H1
        have HC5 := Aside0.mk H
        clear H
        go_upto_region 3 with (fail)
        go_cut [13] (fun v13 wc => ∃ (kq : Nat) (x13_4 : Bool), v13 = .bool x13_4 ∧ Aside0 (broadsheetref19_hex.j1 kq a0 x13_4 = some r) ∧ Aside0 (kq ≤ kj1) ∧ Drawn0 w wc)
        case first =>
          have H := HC5.out
          clear HC5
          by_cases c6 : a0 ≥ 65
          · rw [if_pos c6] at H
            have c6b0 : decide (65 ≤ a0) = true := decide_eq_true c6
            clear c6
            (first | rw [c6b0] | (simp only [i64_w, i32_w]; rw [c6b0]) | skip)
            have H' := Aside0.mk H
            clear H
            go_wp2
            go_meet
            case rel => exact ⟨_, (decide (a0 ≤ 70)), (by first | rfl | (simp; done) | (simp [*]; done)), H', ⟨by have := HJ1.out; first | omega | exact Nat.le_refl _⟩, by repeat (first | exact Drawn0.refl _ | apply Drawn0.step)⟩
          · rw [if_neg c6] at H
            have c6b0 : decide (65 ≤ a0) = false := decide_eq_false c6
            clear c6
            (first | rw [c6b0] | (simp only [i64_w, i32_w]; rw [c6b0]) | skip)
            have H' := Aside0.mk H
            clear H
            go_wp2
            go_meet
            case rel => exact ⟨_, (false), (by first | rfl | (simp; done) | (simp [*]; done)), H', ⟨by have := HJ1.out; first | omega | exact Nat.le_refl _⟩, by repeat (first | exact Drawn0.refl _ | apply Drawn0.step)⟩
        case rest =>
          clear HC5
          try clear c1
          try clear p2
          try clear c3
          try clear c3b0
          try clear c4
          try clear c6
          try clear c6b0
          try clear p6
          try clear p2
          obtain ⟨kq, x13_4, rfl, HA, HJ4, ⟨mc4, rfl⟩⟩ := hcut
          cases kq with
          | zero => exact absurd HA.out (by simp [broadsheetref19_hex.j1])
          | succ kj4 =>
            have H := HA.out
            clear HA
            simp only [broadsheetref19_hex.j1] at H
            by_cases c7 : x13_4 = true
            · subst c7
              have H1 : (some (wrap64 ((wrap64 (a0)) - 55))) = some r := by rw [if_pos rfl] at H; exact H
              clear H
              have H := H1
              clear H1
              obtain rfl := Option.some.inj H
              go_wp2
              go_ret
              exact ⟨by first | rfl | (simp; done) | (simp [*]; done), by repeat (first | exact Drawn0.refl _ | apply Drawn0.step)⟩
            · replace c7 := Bool.eq_false_iff.mpr c7
              subst c7
              have H1 : (if a0 ≥ 97 then (if a0 ≤ 102 then (some (wrap64 ((wrap64 (a0)) - 87))) else (some (-1))) else (some (-1))) = some r := by rw [if_neg (show ¬ (false = true) by decide)] at H; exact H
              clear H
              have H := H1
              clear H1
              by_cases c8 : a0 ≥ 97
              · rw [if_pos c8] at H
                have c8b0 : decide (97 ≤ a0) = true := decide_eq_true c8
                clear c8
                by_cases c9 : a0 ≤ 102
                · rw [if_pos c9] at H
                  have c9b0 : decide (a0 ≤ 102) = true := decide_eq_true c9
                  clear c9
                  obtain rfl := Option.some.inj H
                  go_wp2
                  go_ret
                  exact ⟨by first | rfl | (simp; done) | (simp [*]; done), by repeat (first | exact Drawn0.refl _ | apply Drawn0.step)⟩
                · rw [if_neg c9] at H
                  have c9b0 : decide (a0 ≤ 102) = false := decide_eq_false c9
                  clear c9
                  obtain rfl := Option.some.inj H
                  go_wp2
                  go_ret
                  exact ⟨by first | rfl | (simp; done) | (simp [*]; done), by repeat (first | exact Drawn0.refl _ | apply Drawn0.step)⟩
              · rw [if_neg c8] at H
                have c8b0 : decide (97 ≤ a0) = false := decide_eq_false c8
                clear c8
                obtain rfl := Option.some.inj H
                go_wp2
                go_ret
                exact ⟨by first | rfl | (simp; done) | (simp [*]; done), by repeat (first | exact Drawn0.refl _ | apply Drawn0.step)⟩

end Go.Proofs.YteonhdfjfjpbjaaDoor.P

/- Px19 -/
namespace Go.Proofs.YteonhdfjfjpbjaaDoor.P
open Go.Proofs.YteonhdfjfjpbjaaDoor.B
open Go.RowKit Go.Proofs.YteonhdfjfjpbjaaDoorW.PrintWords Go.Proofs.YteonhdfjfjpbjaaDoorW.PrintLast Go.Proofs.YteonhdfjfjpbjaaDoorW.PrintMore
attribute [local go_sem] str_leq str_gtr str_geq max2_int min2_int max_two min_two max_three min_three max_four min_four   -- for this text's walks alone
set_option linter.unusedVariables false
set_option linter.unusedSimpArgs false

/-! ### broadsheetref19_size: function 19 -/
mutual
def broadsheetref19_size.l0 : Nat → ByteArray → Int → Int → Option (Int × ByteArray)
  | 0, _, _, _ => none
  | k + 1, x0, x4, x5 => if x5 < (x0.size : Int) then (if 0 ≤ x5 then ((broadsheetref19_hex.f k (bt x0 x5)).bind fun t191 => (broadsheetref19_size.j1 k x0 x4 x5 (decide (t191 ≥ 0)))) else (none)) else (broadsheetref19_size.j1 k x0 x4 x5 false)
def broadsheetref19_size.j1 : Nat → ByteArray → Int → Int → Bool → Option (Int × ByteArray)
  | 0, _, _, _, _ => none
  | k + 1, x0, x4, x5, x16 => if x16 = true then (if x5 = 8 then (some ((-1), (⟨#[]⟩ : ByteArray))) else (if 0 ≤ x5 then (if x5 < (x0.size : Int) then ((broadsheetref19_hex.f k (bt x0 x5)).bind fun t192 => (broadsheetref19_size.l0 k x0 (wrap64 ((wrap64 (x4 * 16)) + t192)) (wrap64 (x5 + 1)))) else (none)) else (none))) else (if x5 = 0 then (some ((-1), (⟨#[]⟩ : ByteArray))) else (if 0 ≤ x5 then (if x5 ≤ (x0.size : Int) then (some (x4, x0.extract (x5 : Int).toNat x0.size)) else (none)) else (none)))
end
def broadsheetref19_size.f (k : Nat) (a0 : ByteArray) : Option (Int × ByteArray) := broadsheetref19_size.l0 k a0 0 0
theorem broadsheetref19_size.mono_l : ∀ k, (∀ y0 y1 y2, LeO (broadsheetref19_size.l0 k y0 y1 y2) (broadsheetref19_size.l0 (k + 1) y0 y1 y2)) ∧ (∀ y0 y1 y2 y3, LeO (broadsheetref19_size.j1 k y0 y1 y2 y3) (broadsheetref19_size.j1 (k + 1) y0 y1 y2 y3))
  | 0 => ⟨fun _ _ _ r h => by simp [broadsheetref19_size.l0] at h, fun _ _ _ _ r h => by simp [broadsheetref19_size.j1] at h⟩
  | k + 1 => by
    obtain ⟨ih0, ih1⟩ := broadsheetref19_size.mono_l k
    refine ⟨?_, ?_⟩
    · intro y0 y1 y2
      unfold broadsheetref19_size.l0
      repeat' first
      | (with_reducible exact ih0 _ _ _)
      | (with_reducible exact ih1 _ _ _ _)
      | (with_reducible exact broadsheetref19_hex.mono _ _)
      | (with_reducible exact LeO.refl _)
      | (with_reducible exact LeO.none _)
      | (with_reducible refine LeO.ite ?_ ?_)
      | (with_reducible refine LeO.bind ?_ (fun _ => ?_))
      | exact ih0 _ _ _
      | exact ih1 _ _ _ _
      | exact broadsheetref19_hex.mono _ _
      | exact LeO.none _
      | refine LeO.ite ?_ ?_
      | refine LeO.bind ?_ (fun _ => ?_)
    · intro y0 y1 y2 y3
      unfold broadsheetref19_size.j1
      repeat' first
      | (with_reducible exact ih0 _ _ _)
      | (with_reducible exact ih1 _ _ _ _)
      | (with_reducible exact broadsheetref19_hex.mono _ _)
      | (with_reducible exact LeO.refl _)
      | (with_reducible exact LeO.none _)
      | (with_reducible refine LeO.ite ?_ ?_)
      | (with_reducible refine LeO.bind ?_ (fun _ => ?_))
      | exact ih0 _ _ _
      | exact ih1 _ _ _ _
      | exact broadsheetref19_hex.mono _ _
      | exact LeO.none _
      | refine LeO.ite ?_ ?_
      | refine LeO.bind ?_ (fun _ => ?_)
theorem broadsheetref19_size.mono : ∀ a0 k, LeO (broadsheetref19_size.f k a0) (broadsheetref19_size.f (k + 1) a0) := by
  intro a0 k
  obtain ⟨ih0, ih1⟩ := broadsheetref19_size.mono_l k
  unfold broadsheetref19_size.f
  repeat' first
      | (with_reducible exact ih0 _ _ _)
      | (with_reducible exact ih1 _ _ _ _)
      | (with_reducible exact broadsheetref19_hex.mono _ _)
      | (with_reducible exact LeO.refl _)
      | (with_reducible exact LeO.none _)
      | (with_reducible refine LeO.ite ?_ ?_)
      | (with_reducible refine LeO.bind ?_ (fun _ => ?_))
      | exact ih0 _ _ _
      | exact ih1 _ _ _ _
      | exact broadsheetref19_hex.mono _ _
      | exact LeO.none _
      | refine LeO.ite ?_ ?_
      | refine LeO.bind ?_ (fun _ => ?_)
set_option maxHeartbeats 8000000 in
set_option maxRecDepth 100000 in
theorem broadsheetref19_size.calls (k : Nat) (a0 : ByteArray) (r1 : Int) (r2 : ByteArray) (w : World) (h : broadsheetref19_size.f k a0 = some (r1, r2)) :
    Calls Tryd.prog 19 #[.string a0] w fun e w' => e = .returned (.tuple #[.int .i64 r1, .string r2]) ∧ Drawn0 w w' := by
  have H : (broadsheetref19_size.l0 k a0 0 0) = some (r1, r2) := h
  clear h
  have H' := Aside0.mk H
  clear H
  go_enter Tryd.func19, Tryd.ntmps19
  go_wp2
  repeat (go_quiet (fail); try go_wp2)
  first | go_loopg [4, 5] k (fun kq v4 v5 w' => ∃ (x4_1 : Int) (x5_1 : Int), v4 = .int .i64 x4_1 ∧ v5 = .int .i64 x5_1 ∧ Aside0 (broadsheetref19_size.l0 kq a0 x4_1 x5_1 = some (r1, r2)) ∧ Aside0 (kq ≤ k) ∧ Drawn0 w w') | (go_simp; go_loopg [4, 5] k (fun kq v4 v5 w' => ∃ (x4_1 : Int) (x5_1 : Int), v4 = .int .i64 x4_1 ∧ v5 = .int .i64 x5_1 ∧ Aside0 (broadsheetref19_size.l0 kq a0 x4_1 x5_1 = some (r1, r2)) ∧ Aside0 (kq ≤ k) ∧ Drawn0 w w'))
  case atStart => exact ⟨(0), (0), (by first | rfl | (simp; done) | (simp [*]; done)), (by first | rfl | (simp; done) | (simp [*]; done)), H', ⟨Nat.le_refl _⟩, by repeat (first | exact Drawn0.refl _ | apply Drawn0.step)⟩
  case round =>
    clear H'
    try clear c1
    obtain ⟨x4_1, x5_1, rfl, rfl, HA, HK1, ⟨m1, rfl⟩⟩ := hrel
    cases gk with
    | zero => exact absurd HA.out (by simp [broadsheetref19_size.l0])
    | succ k1 =>
      have H := HA.out
      clear HA
      simp only [broadsheetref19_size.l0] at H
      have HC2 := Aside0.mk H
      clear H
      go_upto_region 2 with (fail)
      repeat (go_quiet (fail); go_upto_region 2 with (fail))
      go_cut [16] (fun v16 wc => ∃ (kq : Nat) (x16_1 : Bool), v16 = .bool x16_1 ∧ Aside0 (broadsheetref19_size.j1 kq a0 x4_1 x5_1 x16_1 = some (r1, r2)) ∧ Aside0 (kq ≤ k1) ∧ Drawn0 w wc)
      case first =>
        have H := HC2.out
        clear HC2
        by_cases c3 : x5_1 < (a0.size : Int)
        · rw [if_pos c3] at H
          have c3b0 : decide (x5_1 < (a0.size : Int)) = true := decide_eq_true c3
          clear c3
          (first | rw [c3b0] | (simp only [i64_w, i32_w]; rw [c3b0]) | skip)
          by_cases c4 : 0 ≤ x5_1
          · rw [if_pos c4] at H
            have c4b0 : decide (0 ≤ x5_1) = true := decide_eq_true c4
            clear c4
            replace H := Option.bind_eq_some_iff.mp H
            obtain ⟨t191, A60, H⟩ := H
            replace H : (broadsheetref19_size.j1 k1 a0 x4_1 x5_1 (decide (t191 ≥ 0))) = some (r1, r2) := H
            have A6 := Aside0.mk A60
            clear A60
            have H' := Aside0.mk H
            clear H
            have p5 : 0 ≤ (x5_1 : Int) := of_decide_eq_true (by first | (with_reducible assumption) | assumption)
            have q5 : x5_1 < (a0.size : Int) := of_decide_eq_true (by first | (with_reducible assumption) | assumption)
            have hx5 := bt_at a0 x5_1
            replace p5 := eq_true p5
            replace q5 := eq_true q5
            go_wp2_with (first | (go_at_call 33; (with_reducible refine (broadsheetref19_hex.calls k1 (bt a0 x5_1) t191 _ A6.out).mono ?_); rintro e w' ⟨rfl, ⟨nd, rfl⟩⟩; (try first | exact ⟨rfl, _, World.drewN_drewN _ _ _⟩ | exact ⟨rfl, _, Eq.trans (World.drewN_drewN _ _ _) (congrArg (World.drewN _) (Nat.add_assoc _ _ _))⟩)))
            repeat (go_quiet (first | (go_at_call 33; (with_reducible refine (broadsheetref19_hex.calls k1 (bt a0 x5_1) t191 _ A6.out).mono ?_); rintro e w' ⟨rfl, ⟨nd, rfl⟩⟩; (try first | exact ⟨rfl, _, World.drewN_drewN _ _ _⟩ | exact ⟨rfl, _, Eq.trans (World.drewN_drewN _ _ _) (congrArg (World.drewN _) (Nat.add_assoc _ _ _))⟩))); try go_wp2_with (first | (go_at_call 33; (with_reducible refine (broadsheetref19_hex.calls k1 (bt a0 x5_1) t191 _ A6.out).mono ?_); rintro e w' ⟨rfl, ⟨nd, rfl⟩⟩; (try first | exact ⟨rfl, _, World.drewN_drewN _ _ _⟩ | exact ⟨rfl, _, Eq.trans (World.drewN_drewN _ _ _) (congrArg (World.drewN _) (Nat.add_assoc _ _ _))⟩))))
            go_meet
            case rel => exact ⟨_, (decide (t191 ≥ 0)), (by first | rfl | (simp; done) | (simp [*]; done)), H', ⟨by have := HK1.out; first | omega | exact Nat.le_refl _⟩, by repeat (first | exact Drawn0.refl _ | apply Drawn0.step)⟩
          · rw [if_neg c4] at H
            exact absurd H (by simp)
        · rw [if_neg c3] at H
          have c3b0 : decide (x5_1 < (a0.size : Int)) = false := decide_eq_false c3
          clear c3
          (first | rw [c3b0] | (simp only [i64_w, i32_w]; rw [c3b0]) | skip)
          have H' := Aside0.mk H
          clear H
          go_wp2
          repeat (go_quiet (fail); try go_wp2)
          go_meet
          case rel => exact ⟨_, (false), (by first | rfl | (simp; done) | (simp [*]; done)), H', ⟨by have := HK1.out; first | omega | exact Nat.le_refl _⟩, by repeat (first | exact Drawn0.refl _ | apply Drawn0.step)⟩
      case rest =>
        clear HC2
        try clear c1
        try clear p2
        try clear c3
        try clear c3b0
        try clear c4
        try clear c4b0
        try clear p5
        try clear q5
        try clear hx5
        try clear p5
        try clear q5
        obtain ⟨kq, x16_1, rfl, HA, HJ1, ⟨mc1, rfl⟩⟩ := hcut
        cases kq with
        | zero => exact absurd HA.out (by simp [broadsheetref19_size.j1])
        | succ kj1 =>
          have H := HA.out
          clear HA
          simp only [broadsheetref19_size.j1] at H
          by_cases c7 : x16_1 = true
          · subst c7
            have H1 : (if x5_1 = 8 then (some ((-1), (⟨#[]⟩ : ByteArray))) else (if 0 ≤ x5_1 then (if x5_1 < (a0.size : Int) then ((broadsheetref19_hex.f kj1 (bt a0 x5_1)).bind fun t192 => (broadsheetref19_size.l0 kj1 a0 (wrap64 ((wrap64 (x4_1 * 16)) + t192)) (wrap64 (x5_1 + 1)))) else (none)) else (none))) = some (r1, r2) := by rw [if_pos rfl] at H; exact H
            clear H
            have H := H1
            clear H1
            by_cases c8 : x5_1 = 8
            · rw [if_pos c8] at H
              have c8b0 : (x5_1 == 8) = true := beq_iff_eq.mpr c8
              have c8b1 : (x5_1 != 8) = false := bne_eq_false_iff_eq.mpr c8
              clear c8
              simp only [Option.some.injEq, Prod.mk.injEq] at H
              obtain ⟨rfl, rfl⟩ := H
              go_wp2
              repeat (go_quiet (fail); try go_wp2)
              go_ret2
              exact ⟨by first | rfl | (simp; done) | (simp [*]; done), by repeat (first | exact Drawn0.refl _ | apply Drawn0.step)⟩
            · rw [if_neg c8] at H
              have c8b0 : (x5_1 == 8) = false := beq_eq_false_iff_ne.mpr c8
              have c8b1 : (x5_1 != 8) = true := bne_iff_ne.mpr c8
              by_cases c9 : 0 ≤ x5_1
              · rw [if_pos c9] at H
                have c9b0 : decide (0 ≤ x5_1) = true := decide_eq_true c9
                clear c9
                by_cases c10 : x5_1 < (a0.size : Int)
                · rw [if_pos c10] at H
                  have c10b0 : decide (x5_1 < (a0.size : Int)) = true := decide_eq_true c10
                  clear c10
                  replace H := Option.bind_eq_some_iff.mp H
                  obtain ⟨t192, A120, H⟩ := H
                  replace H : (broadsheetref19_size.l0 kj1 a0 (wrap64 ((wrap64 (x4_1 * 16)) + t192)) (wrap64 (x5_1 + 1))) = some (r1, r2) := H
                  have A12 := Aside0.mk A120
                  clear A120
                  have H' := Aside0.mk H
                  clear H
                  have p11 : 0 ≤ (x5_1 : Int) := of_decide_eq_true (by first | (with_reducible assumption) | assumption)
                  have q11 : x5_1 < (a0.size : Int) := of_decide_eq_true (by first | (with_reducible assumption) | assumption)
                  have hx11 := bt_at a0 x5_1
                  replace p11 := eq_true p11
                  replace q11 := eq_true q11
                  go_wp2_with (first | (go_at_call 33; (with_reducible refine (broadsheetref19_hex.calls kj1 (bt a0 x5_1) t192 _ A12.out).mono ?_); rintro e w' ⟨rfl, ⟨nd, rfl⟩⟩; (try first | exact ⟨rfl, _, World.drewN_drewN _ _ _⟩ | exact ⟨rfl, _, Eq.trans (World.drewN_drewN _ _ _) (congrArg (World.drewN _) (Nat.add_assoc _ _ _))⟩)))
                  repeat (go_quiet (first | (go_at_call 33; (with_reducible refine (broadsheetref19_hex.calls kj1 (bt a0 x5_1) t192 _ A12.out).mono ?_); rintro e w' ⟨rfl, ⟨nd, rfl⟩⟩; (try first | exact ⟨rfl, _, World.drewN_drewN _ _ _⟩ | exact ⟨rfl, _, Eq.trans (World.drewN_drewN _ _ _) (congrArg (World.drewN _) (Nat.add_assoc _ _ _))⟩))); try go_wp2_with (first | (go_at_call 33; (with_reducible refine (broadsheetref19_hex.calls kj1 (bt a0 x5_1) t192 _ A12.out).mono ?_); rintro e w' ⟨rfl, ⟨nd, rfl⟩⟩; (try first | exact ⟨rfl, _, World.drewN_drewN _ _ _⟩ | exact ⟨rfl, _, Eq.trans (World.drewN_drewN _ _ _) (congrArg (World.drewN _) (Nat.add_assoc _ _ _))⟩))))
                  go_roundg kj1
                  case measure => have := HK1.out; have := HJ1.out; omega
                  case rel => exact ⟨(wrap64 ((wrap64 (x4_1 * 16)) + t192)), (wrap64 (x5_1 + 1)), (by first | rfl | (simp; done) | (simp [*]; done)), (by first | rfl | (simp; done) | (simp [*]; done)), H', ⟨by have := HK1.out; have := HJ1.out; omega⟩, by repeat (first | exact Drawn0.refl _ | apply Drawn0.step)⟩
                · rw [if_neg c10] at H
                  exact absurd H (by simp)
              · rw [if_neg c9] at H
                exact absurd H (by simp)
          · replace c7 := Bool.eq_false_iff.mpr c7
            subst c7
            have H1 : (if x5_1 = 0 then (some ((-1), (⟨#[]⟩ : ByteArray))) else (if 0 ≤ x5_1 then (if x5_1 ≤ (a0.size : Int) then (some (x4_1, a0.extract (x5_1 : Int).toNat a0.size)) else (none)) else (none))) = some (r1, r2) := by rw [if_neg (show ¬ (false = true) by decide)] at H; exact H
            clear H
            have H := H1
            clear H1
            by_cases c13 : x5_1 = 0
            · rw [if_pos c13] at H
              have c13b0 : (x5_1 == 0) = true := beq_iff_eq.mpr c13
              have c13b1 : (x5_1 != 0) = false := bne_eq_false_iff_eq.mpr c13
              clear c13
              simp only [Option.some.injEq, Prod.mk.injEq] at H
              obtain ⟨rfl, rfl⟩ := H
              go_wp2
              repeat (go_quiet (fail); try go_wp2)
              go_ret2
              exact ⟨by first | rfl | (simp; done) | (simp [*]; done), by repeat (first | exact Drawn0.refl _ | apply Drawn0.step)⟩
            · rw [if_neg c13] at H
              have c13b0 : (x5_1 == 0) = false := beq_eq_false_iff_ne.mpr c13
              have c13b1 : (x5_1 != 0) = true := bne_iff_ne.mpr c13
              by_cases c14 : 0 ≤ x5_1
              · rw [if_pos c14] at H
                have c14b0 := eq_true c14
                have c14b1 : decide (0 ≤ x5_1) = true := decide_eq_true c14
                clear c14
                by_cases c15 : x5_1 ≤ (a0.size : Int)
                · rw [if_pos c15] at H
                  have c15b0 := eq_true c15
                  have c15b1 : decide (x5_1 ≤ (a0.size : Int)) = true := decide_eq_true c15
                  clear c15
                  simp only [Option.some.injEq, Prod.mk.injEq] at H
                  obtain ⟨rfl, rfl⟩ := H
                  go_wp2
                  repeat (go_quiet (fail); try go_wp2)
                  go_ret2
                  exact ⟨by first | rfl | (simp; done) | (simp [*]; done), by repeat (first | exact Drawn0.refl _ | apply Drawn0.step)⟩
                · rw [if_neg c15] at H
                  exact absurd H (by simp)
              · rw [if_neg c14] at H
                exact absurd H (by simp)

end Go.Proofs.YteonhdfjfjpbjaaDoor.P

/- Px20 -/
namespace Go.Proofs.YteonhdfjfjpbjaaDoor.P
open Go.Proofs.YteonhdfjfjpbjaaDoor.B
open Go.RowKit Go.Proofs.YteonhdfjfjpbjaaDoorW.PrintWords Go.Proofs.YteonhdfjfjpbjaaDoorW.PrintLast Go.Proofs.YteonhdfjfjpbjaaDoorW.PrintMore
attribute [local go_sem] str_leq str_gtr str_geq max2_int min2_int max_two min_two max_three min_three max_four min_four   -- for this text's walks alone
set_option linter.unusedVariables false
set_option linter.unusedSimpArgs false

/-! ### broadsheetref13_Skip: function 34 -/
def broadsheetref13_Skip.l0 : Nat → ByteArray → Option (ByteArray)
  | 0, _ => none
  | k + 1, x0 => if (x0.size : Int) > 0 then (if 0 < (x0.size : Int) then (if (bt x0 0) = 32 then (if 1 ≤ (x0.size : Int) then (broadsheetref13_Skip.l0 k (x0.extract 1 x0.size)) else (none)) else (if (bt x0 0) = 9 then (if 1 ≤ (x0.size : Int) then (broadsheetref13_Skip.l0 k (x0.extract 1 x0.size)) else (none)) else (some x0))) else (none)) else (some x0)
def broadsheetref13_Skip.f (k : Nat) (a0 : ByteArray) : Option (ByteArray) := broadsheetref13_Skip.l0 k a0
theorem broadsheetref13_Skip.mono_l : ∀ k, (∀ y0, LeO (broadsheetref13_Skip.l0 k y0) (broadsheetref13_Skip.l0 (k + 1) y0))
  | 0 => fun _ r h => by simp [broadsheetref13_Skip.l0] at h
  | k + 1 => by
    have ih0 := broadsheetref13_Skip.mono_l k
    · intro y0
      unfold broadsheetref13_Skip.l0
      repeat' first
      | (with_reducible exact ih0 _)
      | (with_reducible exact LeO.refl _)
      | (with_reducible exact LeO.none _)
      | (with_reducible refine LeO.ite ?_ ?_)
      | (with_reducible refine LeO.bind ?_ (fun _ => ?_))
      | exact ih0 _
      | exact LeO.none _
      | refine LeO.ite ?_ ?_
      | refine LeO.bind ?_ (fun _ => ?_)
theorem broadsheetref13_Skip.mono : ∀ a0 k, LeO (broadsheetref13_Skip.f k a0) (broadsheetref13_Skip.f (k + 1) a0) := by
  intro a0 k
  have ih0 := broadsheetref13_Skip.mono_l k
  unfold broadsheetref13_Skip.f
  repeat' first
      | (with_reducible exact ih0 _)
      | (with_reducible exact LeO.refl _)
      | (with_reducible exact LeO.none _)
      | (with_reducible refine LeO.ite ?_ ?_)
      | (with_reducible refine LeO.bind ?_ (fun _ => ?_))
      | exact ih0 _
      | exact LeO.none _
      | refine LeO.ite ?_ ?_
      | refine LeO.bind ?_ (fun _ => ?_)
set_option maxHeartbeats 8000000 in
set_option maxRecDepth 100000 in
theorem broadsheetref13_Skip.calls (k : Nat) (a0 : ByteArray) (r : ByteArray) (w : World) (h : broadsheetref13_Skip.f k a0 = some r) :
    Calls Tryd.prog 34 #[.string a0] w fun e w' => e = .returned (.string r) ∧ Drawn0 w w' := by
  have H : (broadsheetref13_Skip.l0 k a0) = some r := h
  clear h
  have H' := Aside0.mk H
  clear H
  go_enter Tryd.func34, Tryd.ntmps34
  go_wp2
  first | go_loopg [0] k (fun kq v0 w' => ∃ (x0_1 : ByteArray), v0 = .string x0_1 ∧ Aside0 (broadsheetref13_Skip.l0 kq x0_1 = some r) ∧ Aside0 (kq ≤ k) ∧ Drawn0 w w') | (go_simp; go_loopg [0] k (fun kq v0 w' => ∃ (x0_1 : ByteArray), v0 = .string x0_1 ∧ Aside0 (broadsheetref13_Skip.l0 kq x0_1 = some r) ∧ Aside0 (kq ≤ k) ∧ Drawn0 w w'))
  case atStart => exact ⟨(a0), (by first | rfl | (simp; done) | (simp [*]; done)), H', ⟨Nat.le_refl _⟩, by repeat (first | exact Drawn0.refl _ | apply Drawn0.step)⟩
  case round =>
    clear H'
    obtain ⟨x0_1, rfl, HA, HK1, ⟨m1, rfl⟩⟩ := hrel
    cases gk with
    | zero => exact absurd HA.out (by simp [broadsheetref13_Skip.l0])
    | succ k1 =>
      have H := HA.out
      clear HA
      simp only [broadsheetref13_Skip.l0] at H
      by_cases c2 : (x0_1.size : Int) > 0
      · rw [if_pos c2] at H
        have c2b0 : decide (0 < (x0_1.size : Int)) = true := decide_eq_true c2
        have c2b1 : decide (0 < x0_1.size) = true := decide_eq_true (by omega)
        clear c2
        by_cases c3 : 0 < (x0_1.size : Int)
        · rw [if_pos c3] at H
          have c3b0 : decide (0 < (x0_1.size : Int)) = true := decide_eq_true c3
          have c3b1 : decide (0 < x0_1.size) = true := decide_eq_true (by omega)
          clear c3
          by_cases c5 : (bt x0_1 0) = 32
          · rw [if_pos c5] at H
            have c5b0 : ((bt x0_1 0) == 32) = true := beq_iff_eq.mpr c5
            have c5b1 : ((bt x0_1 0) != 32) = false := bne_eq_false_iff_eq.mpr c5
            clear c5
            by_cases c6 : 1 ≤ (x0_1.size : Int)
            · rw [if_pos c6] at H
              have c6b0 := eq_true c6
              have c6b1 : decide (1 ≤ (x0_1.size : Int)) = true := decide_eq_true c6
              clear c6
              have H' := Aside0.mk H
              clear H
              have p4 : 0 ≤ (0 : Int) := (by omega)
              have q4 : 0 < x0_1.size := (by have : (0 : Int) < (x0_1.size : Int) := of_decide_eq_true (by first | (with_reducible assumption) | assumption); omega)
              have hx4 : ∀ h : 0 < x0_1.size, ((x0_1[0]'h).toNat : Int) = bt x0_1 0 := bt_at x0_1 0
              clear p4
              have qi4 : (0 < (x0_1.size : Int)) = True := eq_true (of_decide_eq_true (by first | (with_reducible assumption) | assumption))
              replace q4 := eq_true q4
              go_wp2
              go_roundg k1
              case measure => have := HK1.out; omega
              case rel => exact ⟨(x0_1.extract 1 x0_1.size), (by first | rfl | (simp; done) | (simp [*]; done)), H', ⟨by have := HK1.out; omega⟩, by repeat (first | exact Drawn0.refl _ | apply Drawn0.step)⟩
            · rw [if_neg c6] at H
              exact absurd H (by simp)
          · rw [if_neg c5] at H
            have c5b0 : ((bt x0_1 0) == 32) = false := beq_eq_false_iff_ne.mpr c5
            have c5b1 : ((bt x0_1 0) != 32) = true := bne_iff_ne.mpr c5
            by_cases c8 : (bt x0_1 0) = 9
            · rw [if_pos c8] at H
              have c8b0 : ((bt x0_1 0) == 9) = true := beq_iff_eq.mpr c8
              have c8b1 : ((bt x0_1 0) != 9) = false := bne_eq_false_iff_eq.mpr c8
              clear c8
              by_cases c9 : 1 ≤ (x0_1.size : Int)
              · rw [if_pos c9] at H
                have c9b0 := eq_true c9
                have c9b1 : decide (1 ≤ (x0_1.size : Int)) = true := decide_eq_true c9
                clear c9
                have H' := Aside0.mk H
                clear H
                have p4 : 0 ≤ (0 : Int) := (by omega)
                have q4 : 0 < x0_1.size := (by have : (0 : Int) < (x0_1.size : Int) := of_decide_eq_true (by first | (with_reducible assumption) | assumption); omega)
                have hx4 : ∀ h : 0 < x0_1.size, ((x0_1[0]'h).toNat : Int) = bt x0_1 0 := bt_at x0_1 0
                clear p4
                have qi4 : (0 < (x0_1.size : Int)) = True := eq_true (of_decide_eq_true (by first | (with_reducible assumption) | assumption))
                replace q4 := eq_true q4
                have p7 : 0 ≤ (0 : Int) := (by omega)
                have q7 : 0 < x0_1.size := (by have : (0 : Int) < (x0_1.size : Int) := of_decide_eq_true (by first | (with_reducible assumption) | assumption); omega)
                have hx7 : ∀ h : 0 < x0_1.size, ((x0_1[0]'h).toNat : Int) = bt x0_1 0 := bt_at x0_1 0
                clear p7
                have qi7 : (0 < (x0_1.size : Int)) = True := eq_true (of_decide_eq_true (by first | (with_reducible assumption) | assumption))
                replace q7 := eq_true q7
                go_wp2
                go_roundg k1
                case measure => have := HK1.out; omega
                case rel => exact ⟨(x0_1.extract 1 x0_1.size), (by first | rfl | (simp; done) | (simp [*]; done)), H', ⟨by have := HK1.out; omega⟩, by repeat (first | exact Drawn0.refl _ | apply Drawn0.step)⟩
              · rw [if_neg c9] at H
                exact absurd H (by simp)
            · rw [if_neg c8] at H
              have c8b0 : ((bt x0_1 0) == 9) = false := beq_eq_false_iff_ne.mpr c8
              have c8b1 : ((bt x0_1 0) != 9) = true := bne_iff_ne.mpr c8
              obtain rfl := Option.some.inj H
              have p4 : 0 ≤ (0 : Int) := (by omega)
              have q4 : 0 < x0_1.size := (by have : (0 : Int) < (x0_1.size : Int) := of_decide_eq_true (by first | (with_reducible assumption) | assumption); omega)
              have hx4 : ∀ h : 0 < x0_1.size, ((x0_1[0]'h).toNat : Int) = bt x0_1 0 := bt_at x0_1 0
              clear p4
              have qi4 : (0 < (x0_1.size : Int)) = True := eq_true (of_decide_eq_true (by first | (with_reducible assumption) | assumption))
              replace q4 := eq_true q4
              have p7 : 0 ≤ (0 : Int) := (by omega)
              have q7 : 0 < x0_1.size := (by have : (0 : Int) < (x0_1.size : Int) := of_decide_eq_true (by first | (with_reducible assumption) | assumption); omega)
              have hx7 : ∀ h : 0 < x0_1.size, ((x0_1[0]'h).toNat : Int) = bt x0_1 0 := bt_at x0_1 0
              clear p7
              have qi7 : (0 < (x0_1.size : Int)) = True := eq_true (of_decide_eq_true (by first | (with_reducible assumption) | assumption))
              replace q7 := eq_true q7
              go_wp2
              go_ret
              exact ⟨by first | rfl | (simp; done) | (simp [*]; done), by repeat (first | exact Drawn0.refl _ | apply Drawn0.step)⟩
        · rw [if_neg c3] at H
          exact absurd H (by simp)
      · rw [if_neg c2] at H
        have c2b0 : decide (0 < (x0_1.size : Int)) = false := decide_eq_false c2
        have c2b1 : decide (0 < x0_1.size) = false := decide_eq_false (by omega)
        clear c2
        obtain rfl := Option.some.inj H
        go_wp2
        go_ret
        exact ⟨by first | rfl | (simp; done) | (simp [*]; done), by repeat (first | exact Drawn0.refl _ | apply Drawn0.step)⟩

end Go.Proofs.YteonhdfjfjpbjaaDoor.P
