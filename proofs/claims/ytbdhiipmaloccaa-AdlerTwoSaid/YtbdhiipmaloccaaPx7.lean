/- Each Go function named below comes to what the Lean function of its name says (written by this session's program mkprint.py over the kit's print). -/
import Derived.Test.YtbdhiipmaloccaaPx0
import Derived.Test.YtbdhiipmaloccaaPx1
import Derived.Test.YtbdhiipmaloccaaPx5
import Derived.Test.YtbdhiipmaloccaaPx6
namespace Go.Proofs.Ytbdhiipmaloccaa.P
open Go.RowKit Go.Proofs.YtbdhiipmaloccaaW.PrintWords Go.Proofs.YtbdhiipmaloccaaW.PrintLast Go.Proofs.YtbdhiipmaloccaaW.PrintMore
attribute [local go_sem] max2_int min2_int max_two min_two max_three min_three max_four min_four   -- for this text's walks alone
set_option linter.unusedVariables false
set_option linter.unusedSimpArgs false

/-! ### broadsheetlaw02_AdlerJoins: function 5 -/
def broadsheetlaw02_AdlerJoins.f (a0 : Int) (a1 : Int) (a2 : Int) : Option (Bool) := (broadsheetlaw02_awake.f).bind fun t112 => (if t112 = true then ((adler_Join.f (wrap64 (a0)) (wrap64 (a1)) ((Int.tdiv a2 2) % 4294967296)).bind fun t113 => ((broadsheetref02_Join.f (wrap64 (a0)) (wrap64 (a1)) ((Int.tdiv a2 2) % 4294967296)).bind fun t114 => (some (t113 == t114)))) else (some false))
set_option maxHeartbeats 8000000 in
set_option maxRecDepth 100000 in
theorem broadsheetlaw02_AdlerJoins.calls (a0 : Int) (a1 : Int) (a2 : Int) (r : Bool) (w : World) (h : broadsheetlaw02_AdlerJoins.f a0 a1 a2 = some r) :
    Calls Try.prog 5 #[.int .u32 a0, .int .u32 a1, .int .u32 a2] w fun e w' => e = .returned (.bool r) ∧ Below w.heap.size w w' := by
  have HB := Aside0.mk (Below.refl w.heap.size w)
  have H : ((broadsheetlaw02_awake.f).bind fun t112 => (if t112 = true then ((adler_Join.f (wrap64 (a0)) (wrap64 (a1)) ((Int.tdiv a2 2) % 4294967296)).bind fun t113 => ((broadsheetref02_Join.f (wrap64 (a0)) (wrap64 (a1)) ((Int.tdiv a2 2) % 4294967296)).bind fun t114 => (some (t113 == t114)))) else (some false))) = some r := h
  clear h
  replace H := Option.bind_eq_some_iff.mp H
  obtain ⟨t112, A40, H⟩ := H
  replace H : (if t112 = true then ((adler_Join.f (wrap64 (a0)) (wrap64 (a1)) ((Int.tdiv a2 2) % 4294967296)).bind fun t113 => ((broadsheetref02_Join.f (wrap64 (a0)) (wrap64 (a1)) ((Int.tdiv a2 2) % 4294967296)).bind fun t114 => (some (t113 == t114)))) else (some false)) = some r := H
  have A4 := Aside0.mk A40
  clear A40
  by_cases c5 : t112 = true
  · subst c5
    have H1 : ((adler_Join.f (wrap64 (a0)) (wrap64 (a1)) ((Int.tdiv a2 2) % 4294967296)).bind fun t113 => ((broadsheetref02_Join.f (wrap64 (a0)) (wrap64 (a1)) ((Int.tdiv a2 2) % 4294967296)).bind fun t114 => (some (t113 == t114)))) = some r := by rw [if_pos rfl] at H; exact H
    clear H
    have H := H1
    clear H1
    replace H := Option.bind_eq_some_iff.mp H
    obtain ⟨t113, A60, H⟩ := H
    replace H : ((broadsheetref02_Join.f (wrap64 (a0)) (wrap64 (a1)) ((Int.tdiv a2 2) % 4294967296)).bind fun t114 => (some (t113 == t114))) = some r := H
    have A6 := Aside0.mk A60
    clear A60
    replace H := Option.bind_eq_some_iff.mp H
    obtain ⟨t114, A70, H⟩ := H
    replace H : (some (t113 == t114)) = some r := H
    have A7 := Aside0.mk A70
    clear A70
    obtain rfl := Option.some.inj H
    go_enter Try.func5, Try.ntmps5
    go_wp2_with (first | ((with_reducible refine gate_callee (f := 7) rfl ?_); refine goesL_ (some 17) rfl rfl Try.func7 (by kernel_rfl) rfl #[] rfl (by (try simp only [List.map_toArray, List.map_cons, List.map_nil]); first | done | rfl | (simp only [List.length_drop, List.length_take]; rfl)) ?_; (with_reducible refine (broadsheetlaw02_awake.calls  true _ A4.out).mono ?_); rintro e w8 ⟨rfl, hb⟩; refine ⟨_, rfl, ?_⟩; have n0_ := Aside0.mk (below_step (by repeat (first | (with_reducible first | exact HB.out | apply below_alloc | apply pw_below_drewN | apply below_drew1) | exact HB.out)) hb); clear HB; have HB := n0_; clear n0_; (try clear hb); (try clear hb2); (try clear hk); (try clear hi)) | (go_at_call 10; (with_reducible refine (adler_Join.calls (wrap64 (a0)) (wrap64 (a1)) ((Int.tdiv a2 2) % 4294967296) t113 _ A6.out).mono ?_); rintro e w' ⟨rfl, ⟨nd, rfl⟩⟩) | (go_at_call 11; (with_reducible refine (broadsheetref02_Join.calls (wrap64 (a0)) (wrap64 (a1)) ((Int.tdiv a2 2) % 4294967296) t114 _ A7.out).mono ?_); rintro e w' ⟨rfl, ⟨nd, rfl⟩⟩))
    go_ret
    exact ⟨by first | rfl | (simp [errW_none, errW_some] <;> rfl) | (simp [*, errW_none, errW_some] <;> rfl), by repeat (first | (with_reducible first | exact HB.out | apply below_alloc | apply pw_below_drewN | apply below_drew1) | exact HB.out)⟩
  · replace c5 := Bool.eq_false_iff.mpr c5
    subst c5
    have H1 : (some false) = some r := by rw [if_neg (show ¬ (false = true) by decide)] at H; exact H
    clear H
    have H := H1
    clear H1
    obtain rfl := Option.some.inj H
    go_enter Try.func5, Try.ntmps5
    go_wp2_with (first | ((with_reducible refine gate_callee (f := 7) rfl ?_); refine goesL_ (some 17) rfl rfl Try.func7 (by kernel_rfl) rfl #[] rfl (by (try simp only [List.map_toArray, List.map_cons, List.map_nil]); first | done | rfl | (simp only [List.length_drop, List.length_take]; rfl)) ?_; (with_reducible refine (broadsheetlaw02_awake.calls  false _ A4.out).mono ?_); rintro e w9 ⟨rfl, hb⟩; refine ⟨_, rfl, ?_⟩; have n0_ := Aside0.mk (below_step (by repeat (first | (with_reducible first | exact HB.out | apply below_alloc | apply pw_below_drewN | apply below_drew1) | exact HB.out)) hb); clear HB; have HB := n0_; clear n0_; (try clear hb); (try clear hb2); (try clear hk); (try clear hi)))
    go_ret
    exact ⟨by first | rfl | (simp [errW_none, errW_some] <;> rfl) | (simp [*, errW_none, errW_some] <;> rfl), by repeat (first | (with_reducible first | exact HB.out | apply below_alloc | apply pw_below_drewN | apply below_drew1) | exact HB.out)⟩

/-- THE ONE PURE STATEMENT of broadsheetlaw02_AdlerJoins: yours. -/
def broadsheetlaw02_AdlerJoins.Pure : Prop := ∀ (a0 : Int) (a1 : Int) (a2 : Int), (Lit.int .u32 a0).wf = true → (Lit.int .u32 a1).wf = true → (Lit.int .u32 a2).wf = true → broadsheetlaw02_AdlerJoins.f a0 a1 a2 = some true
theorem broadsheetlaw02_AdlerJoins.walk (P : broadsheetlaw02_AdlerJoins.Pure) (a0 : Int) (a1 : Int) (a2 : Int) (w : World) (w0 : (Lit.int .u32 a0).wf = true) (w1 : (Lit.int .u32 a1).wf = true) (w2 : (Lit.int .u32 a2).wf = true) :
    Calls Try.prog 5 #[.int .u32 a0, .int .u32 a1, .int .u32 a2] w fun e w' => e = .returned (.bool true) ∧ Below w.heap.size w w' := by
  have h := P a0 a1 a2 w0 w1 w2
  refine (broadsheetlaw02_AdlerJoins.calls a0 a1 a2 true w h).mono ?_
  rintro e w' ⟨rfl, hd⟩
  exact ⟨rfl, hd⟩

end Go.Proofs.Ytbdhiipmaloccaa.P
