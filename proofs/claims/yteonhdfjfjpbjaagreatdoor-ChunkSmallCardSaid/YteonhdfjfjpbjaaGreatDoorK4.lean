/- Texts of this seat, joined: lemmas and walks that its statements' proofs use. -/
import Derived.Test.YteonhdfjfjpbjaaGreatDoorK1
import Derived.Test.YteonhdfjfjpbjaaGreatDoorK2
import Derived.Test.YteonhdfjfjpbjaaGreatDoorK3
import Derived.Deep.Slices
import Derived.LaidLaws
import Derived.MakeChecks
import Derived.HandedShaped
import Derived.Lib.LaidU8
import Derived.Lib.LaidTab
import Derived.WalkKit
import Derived.ProofKit
import Derived.Test.YteonhdfjfjpbjaaGreatDoorRows
/- Px32 -/
namespace Go.Proofs.YteonhdfjfjpbjaaGreatDoor.P
open Go.Proofs.YteonhdfjfjpbjaaGreatDoor.B
open Go.RowKit Go.Proofs.YteonhdfjfjpbjaaGreatDoorW.PrintWords Go.Proofs.YteonhdfjfjpbjaaGreatDoorW.PrintLast Go.Proofs.YteonhdfjfjpbjaaGreatDoorW.PrintMore
attribute [local go_sem] str_leq str_gtr str_geq max2_int min2_int max_two min_two max_three min_three max_four min_four   -- for this text's walks alone
set_option linter.unusedVariables false
set_option linter.unusedSimpArgs false

open Go.Proofs.YteonhdfjfjpbjaaGreatDoor.O
/-! ### broadsheetlaw19_awake: function 14 -/
def broadsheetlaw19_awake.f (k : Nat)  : Option (Bool) := (chunk_Decode.f k (⟨#[51, 59, 97, 61, 98, 13, 10, 97, 98, 99, 13, 10, 48, 13, 10, 88, 58, 32, 121, 13, 10, 13, 10, 122]⟩ : ByteArray)).bind fun bt253 => ((chunk_Encode.f k (⟨#[97, 98, 99, 100]⟩ : ByteArray) 3).bind fun bt256 => ((chunk_Decode.f k (⟨#[51, 13, 10, 97, 98, 13, 10]⟩ : ByteArray)).bind fun bt258 => (if bt253.2.2 = 0 then (if bt253.1.toList = ([97, 98, 99] : List UInt8) then (if bt253.2.1.toList = ([122] : List UInt8) then (if bt256.2 = 0 then (if bt256.1.toList = ([51, 13, 10, 97, 98, 99, 13, 10, 49, 13, 10, 100, 13, 10, 48, 13, 10, 13, 10] : List UInt8) then (some (bt258.2.2 == 190)) else (some false)) else (some false)) else (some false)) else (some false)) else (some false))))
theorem broadsheetlaw19_awake.mono : ∀ k, LeO (broadsheetlaw19_awake.f k ) (broadsheetlaw19_awake.f (k + 1) ) := by
  intro  k
  unfold broadsheetlaw19_awake.f
  repeat' first
      | (with_reducible exact chunk_Decode.mono _ _)
      | (with_reducible exact chunk_Encode.mono _ _ _)
      | (with_reducible exact LeO.refl _)
      | (with_reducible exact LeO.none _)
      | (with_reducible refine LeO.ite ?_ ?_)
      | (with_reducible refine LeO.bind ?_ (fun _ => ?_))
      | exact chunk_Decode.mono _ _
      | exact chunk_Encode.mono _ _ _
      | exact LeO.none _
      | refine LeO.ite ?_ ?_
      | refine LeO.bind ?_ (fun _ => ?_)
set_option maxHeartbeats 8000000 in
set_option maxRecDepth 100000 in
theorem broadsheetlaw19_awake.calls (k : Nat)  (r : Bool) (w : World) (hG : Glob w) (h : broadsheetlaw19_awake.f k  = some r) :
    Calls Tryz.prog 14 #[] w fun e w' => e = .returned (.bool r) ∧ Below w.heap.size w w' := by
  have HB := Aside0.mk (Below.refl w.heap.size w)
  have hGA := Aside0.mk hG
  clear hG
  have H : ((chunk_Decode.f k (⟨#[51, 59, 97, 61, 98, 13, 10, 97, 98, 99, 13, 10, 48, 13, 10, 88, 58, 32, 121, 13, 10, 13, 10, 122]⟩ : ByteArray)).bind fun bt253 => ((chunk_Encode.f k (⟨#[97, 98, 99, 100]⟩ : ByteArray) 3).bind fun bt256 => ((chunk_Decode.f k (⟨#[51, 13, 10, 97, 98, 13, 10]⟩ : ByteArray)).bind fun bt258 => (if bt253.2.2 = 0 then (if bt253.1.toList = ([97, 98, 99] : List UInt8) then (if bt253.2.1.toList = ([122] : List UInt8) then (if bt256.2 = 0 then (if bt256.1.toList = ([51, 13, 10, 97, 98, 99, 13, 10, 49, 13, 10, 100, 13, 10, 48, 13, 10, 13, 10] : List UInt8) then (some (bt258.2.2 == 190)) else (some false)) else (some false)) else (some false)) else (some false)) else (some false))))) = some r := h
  clear h
  replace H := Option.bind_eq_some_iff.mp H
  obtain ⟨⟨t253, t254, t255⟩, A10, H⟩ := H
  replace H : ((chunk_Encode.f k (⟨#[97, 98, 99, 100]⟩ : ByteArray) 3).bind fun bt256 => ((chunk_Decode.f k (⟨#[51, 13, 10, 97, 98, 13, 10]⟩ : ByteArray)).bind fun bt258 => (if t255 = 0 then (if t253.toList = ([97, 98, 99] : List UInt8) then (if t254.toList = ([122] : List UInt8) then (if bt256.2 = 0 then (if bt256.1.toList = ([51, 13, 10, 97, 98, 99, 13, 10, 49, 13, 10, 100, 13, 10, 48, 13, 10, 13, 10] : List UInt8) then (some (bt258.2.2 == 190)) else (some false)) else (some false)) else (some false)) else (some false)) else (some false)))) = some r := H
  have A1 := Aside0.mk A10
  clear A10
  replace H := Option.bind_eq_some_iff.mp H
  obtain ⟨⟨t256, t257⟩, A20, H⟩ := H
  replace H : ((chunk_Decode.f k (⟨#[51, 13, 10, 97, 98, 13, 10]⟩ : ByteArray)).bind fun bt258 => (if t255 = 0 then (if t253.toList = ([97, 98, 99] : List UInt8) then (if t254.toList = ([122] : List UInt8) then (if t257 = 0 then (if t256.toList = ([51, 13, 10, 97, 98, 99, 13, 10, 49, 13, 10, 100, 13, 10, 48, 13, 10, 13, 10] : List UInt8) then (some (bt258.2.2 == 190)) else (some false)) else (some false)) else (some false)) else (some false)) else (some false))) = some r := H
  have A2 := Aside0.mk A20
  clear A20
  replace H := Option.bind_eq_some_iff.mp H
  obtain ⟨⟨t258, t259, t260⟩, A30, H⟩ := H
  replace H : (if t255 = 0 then (if t253.toList = ([97, 98, 99] : List UInt8) then (if t254.toList = ([122] : List UInt8) then (if t257 = 0 then (if t256.toList = ([51, 13, 10, 97, 98, 99, 13, 10, 49, 13, 10, 100, 13, 10, 48, 13, 10, 13, 10] : List UInt8) then (some (t260 == 190)) else (some false)) else (some false)) else (some false)) else (some false)) else (some false)) = some r := H
  have A3 := Aside0.mk A30
  clear A30
  by_cases c4 : t255 = 0
  · rw [if_pos c4] at H
    have c4b0 : (t255 == 0) = true := beq_iff_eq.mpr c4
    have c4b1 : (t255 != 0) = false := bne_eq_false_iff_eq.mpr c4
    clear c4
    by_cases c5 : t253.toList = ([97, 98, 99] : List UInt8)
    · rw [if_pos c5] at H
      have c5b0 : (t253.toList == ([97, 98, 99] : List UInt8)) = true := beq_iff_eq.mpr c5
      have c5b1 : (t253.toList != ([97, 98, 99] : List UInt8)) = false := bne_eq_false_iff_eq.mpr c5
      clear c5
      by_cases c6 : t254.toList = ([122] : List UInt8)
      · rw [if_pos c6] at H
        have c6b0 : (t254.toList == ([122] : List UInt8)) = true := beq_iff_eq.mpr c6
        have c6b1 : (t254.toList != ([122] : List UInt8)) = false := bne_eq_false_iff_eq.mpr c6
        clear c6
        by_cases c7 : t257 = 0
        · rw [if_pos c7] at H
          have c7b0 : (t257 == 0) = true := beq_iff_eq.mpr c7
          have c7b1 : (t257 != 0) = false := bne_eq_false_iff_eq.mpr c7
          clear c7
          by_cases c8 : t256.toList = ([51, 13, 10, 97, 98, 99, 13, 10, 49, 13, 10, 100, 13, 10, 48, 13, 10, 13, 10] : List UInt8)
          · rw [if_pos c8] at H
            have c8b0 : (t256.toList == ([51, 13, 10, 97, 98, 99, 13, 10, 49, 13, 10, 100, 13, 10, 48, 13, 10, 13, 10] : List UInt8)) = true := beq_iff_eq.mpr c8
            have c8b1 : (t256.toList != ([51, 13, 10, 97, 98, 99, 13, 10, 49, 13, 10, 100, 13, 10, 48, 13, 10, 13, 10] : List UInt8)) = false := bne_eq_false_iff_eq.mpr c8
            clear c8
            obtain rfl := Option.some.inj H
            go_enter Tryz.func14, Tryz.ntmps14
            go_wp2_with (first | ((with_reducible refine gate_callee (f := 12) rfl ?_); refine goesL_ (some 10) rfl rfl Tryz.func12 (by kernel_rfl) rfl #[.string (⟨#[51, 59, 97, 61, 98, 13, 10, 97, 98, 99, 13, 10, 48, 13, 10, 88, 58, 32, 121, 13, 10, 13, 10, 122]⟩ : ByteArray)] rfl (by (try simp only [List.map_toArray, List.map_cons, List.map_nil]); first | done | rfl | (simp only [List.length_drop, List.length_take]; rfl)) ?_; (with_reducible refine (chunk_Decode.calls k (⟨#[51, 59, 97, 61, 98, 13, 10, 97, 98, 99, 13, 10, 48, 13, 10, 88, 58, 32, 121, 13, 10, 13, 10, 122]⟩ : ByteArray) t253 t254 t255 _ ?side1 A1.out).mono ?_); (case side1 => exact Glob.below hGA.out (by repeat (first | (with_reducible first | exact HB.out | apply below_alloc | apply pw_below_drewN | apply below_drew1) | exact HB.out))); rintro e w9 ⟨rfl, hb⟩; refine ⟨_, rfl, ?_⟩; have n0_ := Aside0.mk (below_step (by repeat (first | (with_reducible first | exact HB.out | apply below_alloc | apply pw_below_drewN | apply below_drew1) | exact HB.out)) hb); clear HB; have HB := n0_; clear n0_; (try clear hb); (try clear hb2); (try clear hk); (try clear hi)) | ((with_reducible refine gate_callee (f := 10) rfl ?_); refine goesL_ (some 15) rfl rfl Tryz.func10 (by kernel_rfl) rfl #[.string (⟨#[97, 98, 99, 100]⟩ : ByteArray), .int .i64 3] rfl (by (try simp only [List.map_toArray, List.map_cons, List.map_nil]); first | done | rfl | (simp only [List.length_drop, List.length_take]; rfl)) ?_; (with_reducible refine (chunk_Encode.calls k (⟨#[97, 98, 99, 100]⟩ : ByteArray) 3 t256 t257 _ ?side1 A2.out).mono ?_); (case side1 => exact Glob.below hGA.out (by repeat (first | (with_reducible first | exact HB.out | apply below_alloc | apply pw_below_drewN | apply below_drew1) | exact HB.out))); rintro e w10 ⟨rfl, hb⟩; refine ⟨_, rfl, ?_⟩; have n0_ := Aside0.mk (below_step (by repeat (first | (with_reducible first | exact HB.out | apply below_alloc | apply pw_below_drewN | apply below_drew1) | exact HB.out)) hb); clear HB; have HB := n0_; clear n0_; (try clear hb); (try clear hb2); (try clear hk); (try clear hi)) | ((with_reducible refine gate_callee (f := 12) rfl ?_); refine goesL_ (some 19) rfl rfl Tryz.func12 (by kernel_rfl) rfl #[.string (⟨#[51, 13, 10, 97, 98, 13, 10]⟩ : ByteArray)] rfl (by (try simp only [List.map_toArray, List.map_cons, List.map_nil]); first | done | rfl | (simp only [List.length_drop, List.length_take]; rfl)) ?_; (with_reducible refine (chunk_Decode.calls k (⟨#[51, 13, 10, 97, 98, 13, 10]⟩ : ByteArray) t258 t259 t260 _ ?side1 A3.out).mono ?_); (case side1 => exact Glob.below hGA.out (by repeat (first | (with_reducible first | exact HB.out | apply below_alloc | apply pw_below_drewN | apply below_drew1) | exact HB.out))); rintro e w11 ⟨rfl, hb⟩; refine ⟨_, rfl, ?_⟩; have n0_ := Aside0.mk (below_step (by repeat (first | (with_reducible first | exact HB.out | apply below_alloc | apply pw_below_drewN | apply below_drew1) | exact HB.out)) hb); clear HB; have HB := n0_; clear n0_; (try clear hb); (try clear hb2); (try clear hk); (try clear hi)))
            go_ret
            exact ⟨by first | rfl | (simp [errW_none, errW_some, bne_nil_] <;> rfl) | (simp [*, errW_none, errW_some] <;> rfl), by repeat (first | (with_reducible first | exact HB.out | apply below_alloc | apply pw_below_drewN | apply below_drew1) | exact HB.out)⟩
          · rw [if_neg c8] at H
            have c8b0 : (t256.toList == ([51, 13, 10, 97, 98, 99, 13, 10, 49, 13, 10, 100, 13, 10, 48, 13, 10, 13, 10] : List UInt8)) = false := beq_eq_false_iff_ne.mpr c8
            have c8b1 : (t256.toList != ([51, 13, 10, 97, 98, 99, 13, 10, 49, 13, 10, 100, 13, 10, 48, 13, 10, 13, 10] : List UInt8)) = true := bne_iff_ne.mpr c8
            obtain rfl := Option.some.inj H
            go_enter Tryz.func14, Tryz.ntmps14
            go_wp2_with (first | ((with_reducible refine gate_callee (f := 12) rfl ?_); refine goesL_ (some 10) rfl rfl Tryz.func12 (by kernel_rfl) rfl #[.string (⟨#[51, 59, 97, 61, 98, 13, 10, 97, 98, 99, 13, 10, 48, 13, 10, 88, 58, 32, 121, 13, 10, 13, 10, 122]⟩ : ByteArray)] rfl (by (try simp only [List.map_toArray, List.map_cons, List.map_nil]); first | done | rfl | (simp only [List.length_drop, List.length_take]; rfl)) ?_; (with_reducible refine (chunk_Decode.calls k (⟨#[51, 59, 97, 61, 98, 13, 10, 97, 98, 99, 13, 10, 48, 13, 10, 88, 58, 32, 121, 13, 10, 13, 10, 122]⟩ : ByteArray) t253 t254 t255 _ ?side1 A1.out).mono ?_); (case side1 => exact Glob.below hGA.out (by repeat (first | (with_reducible first | exact HB.out | apply below_alloc | apply pw_below_drewN | apply below_drew1) | exact HB.out))); rintro e w12 ⟨rfl, hb⟩; refine ⟨_, rfl, ?_⟩; have n0_ := Aside0.mk (below_step (by repeat (first | (with_reducible first | exact HB.out | apply below_alloc | apply pw_below_drewN | apply below_drew1) | exact HB.out)) hb); clear HB; have HB := n0_; clear n0_; (try clear hb); (try clear hb2); (try clear hk); (try clear hi)) | ((with_reducible refine gate_callee (f := 10) rfl ?_); refine goesL_ (some 15) rfl rfl Tryz.func10 (by kernel_rfl) rfl #[.string (⟨#[97, 98, 99, 100]⟩ : ByteArray), .int .i64 3] rfl (by (try simp only [List.map_toArray, List.map_cons, List.map_nil]); first | done | rfl | (simp only [List.length_drop, List.length_take]; rfl)) ?_; (with_reducible refine (chunk_Encode.calls k (⟨#[97, 98, 99, 100]⟩ : ByteArray) 3 t256 t257 _ ?side1 A2.out).mono ?_); (case side1 => exact Glob.below hGA.out (by repeat (first | (with_reducible first | exact HB.out | apply below_alloc | apply pw_below_drewN | apply below_drew1) | exact HB.out))); rintro e w13 ⟨rfl, hb⟩; refine ⟨_, rfl, ?_⟩; have n0_ := Aside0.mk (below_step (by repeat (first | (with_reducible first | exact HB.out | apply below_alloc | apply pw_below_drewN | apply below_drew1) | exact HB.out)) hb); clear HB; have HB := n0_; clear n0_; (try clear hb); (try clear hb2); (try clear hk); (try clear hi)) | ((with_reducible refine gate_callee (f := 12) rfl ?_); refine goesL_ (some 19) rfl rfl Tryz.func12 (by kernel_rfl) rfl #[.string (⟨#[51, 13, 10, 97, 98, 13, 10]⟩ : ByteArray)] rfl (by (try simp only [List.map_toArray, List.map_cons, List.map_nil]); first | done | rfl | (simp only [List.length_drop, List.length_take]; rfl)) ?_; (with_reducible refine (chunk_Decode.calls k (⟨#[51, 13, 10, 97, 98, 13, 10]⟩ : ByteArray) t258 t259 t260 _ ?side1 A3.out).mono ?_); (case side1 => exact Glob.below hGA.out (by repeat (first | (with_reducible first | exact HB.out | apply below_alloc | apply pw_below_drewN | apply below_drew1) | exact HB.out))); rintro e w14 ⟨rfl, hb⟩; refine ⟨_, rfl, ?_⟩; have n0_ := Aside0.mk (below_step (by repeat (first | (with_reducible first | exact HB.out | apply below_alloc | apply pw_below_drewN | apply below_drew1) | exact HB.out)) hb); clear HB; have HB := n0_; clear n0_; (try clear hb); (try clear hb2); (try clear hk); (try clear hi)))
            go_ret
            exact ⟨by first | rfl | (simp [errW_none, errW_some, bne_nil_] <;> rfl) | (simp [*, errW_none, errW_some] <;> rfl), by repeat (first | (with_reducible first | exact HB.out | apply below_alloc | apply pw_below_drewN | apply below_drew1) | exact HB.out)⟩
        · rw [if_neg c7] at H
          have c7b0 : (t257 == 0) = false := beq_eq_false_iff_ne.mpr c7
          have c7b1 : (t257 != 0) = true := bne_iff_ne.mpr c7
          obtain rfl := Option.some.inj H
          go_enter Tryz.func14, Tryz.ntmps14
          go_wp2_with (first | ((with_reducible refine gate_callee (f := 12) rfl ?_); refine goesL_ (some 10) rfl rfl Tryz.func12 (by kernel_rfl) rfl #[.string (⟨#[51, 59, 97, 61, 98, 13, 10, 97, 98, 99, 13, 10, 48, 13, 10, 88, 58, 32, 121, 13, 10, 13, 10, 122]⟩ : ByteArray)] rfl (by (try simp only [List.map_toArray, List.map_cons, List.map_nil]); first | done | rfl | (simp only [List.length_drop, List.length_take]; rfl)) ?_; (with_reducible refine (chunk_Decode.calls k (⟨#[51, 59, 97, 61, 98, 13, 10, 97, 98, 99, 13, 10, 48, 13, 10, 88, 58, 32, 121, 13, 10, 13, 10, 122]⟩ : ByteArray) t253 t254 t255 _ ?side1 A1.out).mono ?_); (case side1 => exact Glob.below hGA.out (by repeat (first | (with_reducible first | exact HB.out | apply below_alloc | apply pw_below_drewN | apply below_drew1) | exact HB.out))); rintro e w15 ⟨rfl, hb⟩; refine ⟨_, rfl, ?_⟩; have n0_ := Aside0.mk (below_step (by repeat (first | (with_reducible first | exact HB.out | apply below_alloc | apply pw_below_drewN | apply below_drew1) | exact HB.out)) hb); clear HB; have HB := n0_; clear n0_; (try clear hb); (try clear hb2); (try clear hk); (try clear hi)) | ((with_reducible refine gate_callee (f := 10) rfl ?_); refine goesL_ (some 15) rfl rfl Tryz.func10 (by kernel_rfl) rfl #[.string (⟨#[97, 98, 99, 100]⟩ : ByteArray), .int .i64 3] rfl (by (try simp only [List.map_toArray, List.map_cons, List.map_nil]); first | done | rfl | (simp only [List.length_drop, List.length_take]; rfl)) ?_; (with_reducible refine (chunk_Encode.calls k (⟨#[97, 98, 99, 100]⟩ : ByteArray) 3 t256 t257 _ ?side1 A2.out).mono ?_); (case side1 => exact Glob.below hGA.out (by repeat (first | (with_reducible first | exact HB.out | apply below_alloc | apply pw_below_drewN | apply below_drew1) | exact HB.out))); rintro e w16 ⟨rfl, hb⟩; refine ⟨_, rfl, ?_⟩; have n0_ := Aside0.mk (below_step (by repeat (first | (with_reducible first | exact HB.out | apply below_alloc | apply pw_below_drewN | apply below_drew1) | exact HB.out)) hb); clear HB; have HB := n0_; clear n0_; (try clear hb); (try clear hb2); (try clear hk); (try clear hi)) | ((with_reducible refine gate_callee (f := 12) rfl ?_); refine goesL_ (some 19) rfl rfl Tryz.func12 (by kernel_rfl) rfl #[.string (⟨#[51, 13, 10, 97, 98, 13, 10]⟩ : ByteArray)] rfl (by (try simp only [List.map_toArray, List.map_cons, List.map_nil]); first | done | rfl | (simp only [List.length_drop, List.length_take]; rfl)) ?_; (with_reducible refine (chunk_Decode.calls k (⟨#[51, 13, 10, 97, 98, 13, 10]⟩ : ByteArray) t258 t259 t260 _ ?side1 A3.out).mono ?_); (case side1 => exact Glob.below hGA.out (by repeat (first | (with_reducible first | exact HB.out | apply below_alloc | apply pw_below_drewN | apply below_drew1) | exact HB.out))); rintro e w17 ⟨rfl, hb⟩; refine ⟨_, rfl, ?_⟩; have n0_ := Aside0.mk (below_step (by repeat (first | (with_reducible first | exact HB.out | apply below_alloc | apply pw_below_drewN | apply below_drew1) | exact HB.out)) hb); clear HB; have HB := n0_; clear n0_; (try clear hb); (try clear hb2); (try clear hk); (try clear hi)))
          go_ret
          exact ⟨by first | rfl | (simp [errW_none, errW_some, bne_nil_] <;> rfl) | (simp [*, errW_none, errW_some] <;> rfl), by repeat (first | (with_reducible first | exact HB.out | apply below_alloc | apply pw_below_drewN | apply below_drew1) | exact HB.out)⟩
      · rw [if_neg c6] at H
        have c6b0 : (t254.toList == ([122] : List UInt8)) = false := beq_eq_false_iff_ne.mpr c6
        have c6b1 : (t254.toList != ([122] : List UInt8)) = true := bne_iff_ne.mpr c6
        obtain rfl := Option.some.inj H
        go_enter Tryz.func14, Tryz.ntmps14
        go_wp2_with (first | ((with_reducible refine gate_callee (f := 12) rfl ?_); refine goesL_ (some 10) rfl rfl Tryz.func12 (by kernel_rfl) rfl #[.string (⟨#[51, 59, 97, 61, 98, 13, 10, 97, 98, 99, 13, 10, 48, 13, 10, 88, 58, 32, 121, 13, 10, 13, 10, 122]⟩ : ByteArray)] rfl (by (try simp only [List.map_toArray, List.map_cons, List.map_nil]); first | done | rfl | (simp only [List.length_drop, List.length_take]; rfl)) ?_; (with_reducible refine (chunk_Decode.calls k (⟨#[51, 59, 97, 61, 98, 13, 10, 97, 98, 99, 13, 10, 48, 13, 10, 88, 58, 32, 121, 13, 10, 13, 10, 122]⟩ : ByteArray) t253 t254 t255 _ ?side1 A1.out).mono ?_); (case side1 => exact Glob.below hGA.out (by repeat (first | (with_reducible first | exact HB.out | apply below_alloc | apply pw_below_drewN | apply below_drew1) | exact HB.out))); rintro e w18 ⟨rfl, hb⟩; refine ⟨_, rfl, ?_⟩; have n0_ := Aside0.mk (below_step (by repeat (first | (with_reducible first | exact HB.out | apply below_alloc | apply pw_below_drewN | apply below_drew1) | exact HB.out)) hb); clear HB; have HB := n0_; clear n0_; (try clear hb); (try clear hb2); (try clear hk); (try clear hi)) | ((with_reducible refine gate_callee (f := 10) rfl ?_); refine goesL_ (some 15) rfl rfl Tryz.func10 (by kernel_rfl) rfl #[.string (⟨#[97, 98, 99, 100]⟩ : ByteArray), .int .i64 3] rfl (by (try simp only [List.map_toArray, List.map_cons, List.map_nil]); first | done | rfl | (simp only [List.length_drop, List.length_take]; rfl)) ?_; (with_reducible refine (chunk_Encode.calls k (⟨#[97, 98, 99, 100]⟩ : ByteArray) 3 t256 t257 _ ?side1 A2.out).mono ?_); (case side1 => exact Glob.below hGA.out (by repeat (first | (with_reducible first | exact HB.out | apply below_alloc | apply pw_below_drewN | apply below_drew1) | exact HB.out))); rintro e w19 ⟨rfl, hb⟩; refine ⟨_, rfl, ?_⟩; have n0_ := Aside0.mk (below_step (by repeat (first | (with_reducible first | exact HB.out | apply below_alloc | apply pw_below_drewN | apply below_drew1) | exact HB.out)) hb); clear HB; have HB := n0_; clear n0_; (try clear hb); (try clear hb2); (try clear hk); (try clear hi)) | ((with_reducible refine gate_callee (f := 12) rfl ?_); refine goesL_ (some 19) rfl rfl Tryz.func12 (by kernel_rfl) rfl #[.string (⟨#[51, 13, 10, 97, 98, 13, 10]⟩ : ByteArray)] rfl (by (try simp only [List.map_toArray, List.map_cons, List.map_nil]); first | done | rfl | (simp only [List.length_drop, List.length_take]; rfl)) ?_; (with_reducible refine (chunk_Decode.calls k (⟨#[51, 13, 10, 97, 98, 13, 10]⟩ : ByteArray) t258 t259 t260 _ ?side1 A3.out).mono ?_); (case side1 => exact Glob.below hGA.out (by repeat (first | (with_reducible first | exact HB.out | apply below_alloc | apply pw_below_drewN | apply below_drew1) | exact HB.out))); rintro e w20 ⟨rfl, hb⟩; refine ⟨_, rfl, ?_⟩; have n0_ := Aside0.mk (below_step (by repeat (first | (with_reducible first | exact HB.out | apply below_alloc | apply pw_below_drewN | apply below_drew1) | exact HB.out)) hb); clear HB; have HB := n0_; clear n0_; (try clear hb); (try clear hb2); (try clear hk); (try clear hi)))
        go_ret
        exact ⟨by first | rfl | (simp [errW_none, errW_some, bne_nil_] <;> rfl) | (simp [*, errW_none, errW_some] <;> rfl), by repeat (first | (with_reducible first | exact HB.out | apply below_alloc | apply pw_below_drewN | apply below_drew1) | exact HB.out)⟩
    · rw [if_neg c5] at H
      have c5b0 : (t253.toList == ([97, 98, 99] : List UInt8)) = false := beq_eq_false_iff_ne.mpr c5
      have c5b1 : (t253.toList != ([97, 98, 99] : List UInt8)) = true := bne_iff_ne.mpr c5
      obtain rfl := Option.some.inj H
      go_enter Tryz.func14, Tryz.ntmps14
      go_wp2_with (first | ((with_reducible refine gate_callee (f := 12) rfl ?_); refine goesL_ (some 10) rfl rfl Tryz.func12 (by kernel_rfl) rfl #[.string (⟨#[51, 59, 97, 61, 98, 13, 10, 97, 98, 99, 13, 10, 48, 13, 10, 88, 58, 32, 121, 13, 10, 13, 10, 122]⟩ : ByteArray)] rfl (by (try simp only [List.map_toArray, List.map_cons, List.map_nil]); first | done | rfl | (simp only [List.length_drop, List.length_take]; rfl)) ?_; (with_reducible refine (chunk_Decode.calls k (⟨#[51, 59, 97, 61, 98, 13, 10, 97, 98, 99, 13, 10, 48, 13, 10, 88, 58, 32, 121, 13, 10, 13, 10, 122]⟩ : ByteArray) t253 t254 t255 _ ?side1 A1.out).mono ?_); (case side1 => exact Glob.below hGA.out (by repeat (first | (with_reducible first | exact HB.out | apply below_alloc | apply pw_below_drewN | apply below_drew1) | exact HB.out))); rintro e w21 ⟨rfl, hb⟩; refine ⟨_, rfl, ?_⟩; have n0_ := Aside0.mk (below_step (by repeat (first | (with_reducible first | exact HB.out | apply below_alloc | apply pw_below_drewN | apply below_drew1) | exact HB.out)) hb); clear HB; have HB := n0_; clear n0_; (try clear hb); (try clear hb2); (try clear hk); (try clear hi)) | ((with_reducible refine gate_callee (f := 10) rfl ?_); refine goesL_ (some 15) rfl rfl Tryz.func10 (by kernel_rfl) rfl #[.string (⟨#[97, 98, 99, 100]⟩ : ByteArray), .int .i64 3] rfl (by (try simp only [List.map_toArray, List.map_cons, List.map_nil]); first | done | rfl | (simp only [List.length_drop, List.length_take]; rfl)) ?_; (with_reducible refine (chunk_Encode.calls k (⟨#[97, 98, 99, 100]⟩ : ByteArray) 3 t256 t257 _ ?side1 A2.out).mono ?_); (case side1 => exact Glob.below hGA.out (by repeat (first | (with_reducible first | exact HB.out | apply below_alloc | apply pw_below_drewN | apply below_drew1) | exact HB.out))); rintro e w22 ⟨rfl, hb⟩; refine ⟨_, rfl, ?_⟩; have n0_ := Aside0.mk (below_step (by repeat (first | (with_reducible first | exact HB.out | apply below_alloc | apply pw_below_drewN | apply below_drew1) | exact HB.out)) hb); clear HB; have HB := n0_; clear n0_; (try clear hb); (try clear hb2); (try clear hk); (try clear hi)) | ((with_reducible refine gate_callee (f := 12) rfl ?_); refine goesL_ (some 19) rfl rfl Tryz.func12 (by kernel_rfl) rfl #[.string (⟨#[51, 13, 10, 97, 98, 13, 10]⟩ : ByteArray)] rfl (by (try simp only [List.map_toArray, List.map_cons, List.map_nil]); first | done | rfl | (simp only [List.length_drop, List.length_take]; rfl)) ?_; (with_reducible refine (chunk_Decode.calls k (⟨#[51, 13, 10, 97, 98, 13, 10]⟩ : ByteArray) t258 t259 t260 _ ?side1 A3.out).mono ?_); (case side1 => exact Glob.below hGA.out (by repeat (first | (with_reducible first | exact HB.out | apply below_alloc | apply pw_below_drewN | apply below_drew1) | exact HB.out))); rintro e w23 ⟨rfl, hb⟩; refine ⟨_, rfl, ?_⟩; have n0_ := Aside0.mk (below_step (by repeat (first | (with_reducible first | exact HB.out | apply below_alloc | apply pw_below_drewN | apply below_drew1) | exact HB.out)) hb); clear HB; have HB := n0_; clear n0_; (try clear hb); (try clear hb2); (try clear hk); (try clear hi)))
      go_ret
      exact ⟨by first | rfl | (simp [errW_none, errW_some, bne_nil_] <;> rfl) | (simp [*, errW_none, errW_some] <;> rfl), by repeat (first | (with_reducible first | exact HB.out | apply below_alloc | apply pw_below_drewN | apply below_drew1) | exact HB.out)⟩
  · rw [if_neg c4] at H
    have c4b0 : (t255 == 0) = false := beq_eq_false_iff_ne.mpr c4
    have c4b1 : (t255 != 0) = true := bne_iff_ne.mpr c4
    obtain rfl := Option.some.inj H
    go_enter Tryz.func14, Tryz.ntmps14
    go_wp2_with (first | ((with_reducible refine gate_callee (f := 12) rfl ?_); refine goesL_ (some 10) rfl rfl Tryz.func12 (by kernel_rfl) rfl #[.string (⟨#[51, 59, 97, 61, 98, 13, 10, 97, 98, 99, 13, 10, 48, 13, 10, 88, 58, 32, 121, 13, 10, 13, 10, 122]⟩ : ByteArray)] rfl (by (try simp only [List.map_toArray, List.map_cons, List.map_nil]); first | done | rfl | (simp only [List.length_drop, List.length_take]; rfl)) ?_; (with_reducible refine (chunk_Decode.calls k (⟨#[51, 59, 97, 61, 98, 13, 10, 97, 98, 99, 13, 10, 48, 13, 10, 88, 58, 32, 121, 13, 10, 13, 10, 122]⟩ : ByteArray) t253 t254 t255 _ ?side1 A1.out).mono ?_); (case side1 => exact Glob.below hGA.out (by repeat (first | (with_reducible first | exact HB.out | apply below_alloc | apply pw_below_drewN | apply below_drew1) | exact HB.out))); rintro e w24 ⟨rfl, hb⟩; refine ⟨_, rfl, ?_⟩; have n0_ := Aside0.mk (below_step (by repeat (first | (with_reducible first | exact HB.out | apply below_alloc | apply pw_below_drewN | apply below_drew1) | exact HB.out)) hb); clear HB; have HB := n0_; clear n0_; (try clear hb); (try clear hb2); (try clear hk); (try clear hi)) | ((with_reducible refine gate_callee (f := 10) rfl ?_); refine goesL_ (some 15) rfl rfl Tryz.func10 (by kernel_rfl) rfl #[.string (⟨#[97, 98, 99, 100]⟩ : ByteArray), .int .i64 3] rfl (by (try simp only [List.map_toArray, List.map_cons, List.map_nil]); first | done | rfl | (simp only [List.length_drop, List.length_take]; rfl)) ?_; (with_reducible refine (chunk_Encode.calls k (⟨#[97, 98, 99, 100]⟩ : ByteArray) 3 t256 t257 _ ?side1 A2.out).mono ?_); (case side1 => exact Glob.below hGA.out (by repeat (first | (with_reducible first | exact HB.out | apply below_alloc | apply pw_below_drewN | apply below_drew1) | exact HB.out))); rintro e w25 ⟨rfl, hb⟩; refine ⟨_, rfl, ?_⟩; have n0_ := Aside0.mk (below_step (by repeat (first | (with_reducible first | exact HB.out | apply below_alloc | apply pw_below_drewN | apply below_drew1) | exact HB.out)) hb); clear HB; have HB := n0_; clear n0_; (try clear hb); (try clear hb2); (try clear hk); (try clear hi)) | ((with_reducible refine gate_callee (f := 12) rfl ?_); refine goesL_ (some 19) rfl rfl Tryz.func12 (by kernel_rfl) rfl #[.string (⟨#[51, 13, 10, 97, 98, 13, 10]⟩ : ByteArray)] rfl (by (try simp only [List.map_toArray, List.map_cons, List.map_nil]); first | done | rfl | (simp only [List.length_drop, List.length_take]; rfl)) ?_; (with_reducible refine (chunk_Decode.calls k (⟨#[51, 13, 10, 97, 98, 13, 10]⟩ : ByteArray) t258 t259 t260 _ ?side1 A3.out).mono ?_); (case side1 => exact Glob.below hGA.out (by repeat (first | (with_reducible first | exact HB.out | apply below_alloc | apply pw_below_drewN | apply below_drew1) | exact HB.out))); rintro e w26 ⟨rfl, hb⟩; refine ⟨_, rfl, ?_⟩; have n0_ := Aside0.mk (below_step (by repeat (first | (with_reducible first | exact HB.out | apply below_alloc | apply pw_below_drewN | apply below_drew1) | exact HB.out)) hb); clear HB; have HB := n0_; clear n0_; (try clear hb); (try clear hb2); (try clear hk); (try clear hi)))
    go_ret
    exact ⟨by first | rfl | (simp [errW_none, errW_some, bne_nil_] <;> rfl) | (simp [*, errW_none, errW_some] <;> rfl), by repeat (first | (with_reducible first | exact HB.out | apply below_alloc | apply pw_below_drewN | apply below_drew1) | exact HB.out)⟩

end Go.Proofs.YteonhdfjfjpbjaaGreatDoor.P

/- SpD -/
namespace Go.Proofs.YteonhdfjfjpbjaaGreatDoor.Sp
open Go Go.RowKit Go.Proofs.YteonhdfjfjpbjaaGreatDoorW.PrintWords Go.Proofs.YteonhdfjfjpbjaaGreatDoorW.PrintLast Go.Proofs.YteonhdfjfjpbjaaGreatDoor.O Go.Proofs.YteonhdfjfjpbjaaGreatDoor.P
set_option linter.unusedVariables false
set_option linter.unusedSimpArgs false

/-! ### Quoted texts -/
theorem quoted_suf : ∀ (s : L) (p : L × L), quoted s = some p → ∃ a, s = a ++ p.2 ∧ a ≠ []
  | [], _, h => by simp [quoted] at h
  | c :: r, p, h => by
    unfold quoted at h
    split at h
    · obtain rfl := Option.some.inj h
      exact ⟨[c], rfl, by simp⟩
    · split at h
      · cases r with
        | nil => simp at h
        | cons d r' =>
          simp only at h
          split at h
          · simp at h
          · cases e : quoted r' with
            | none => rw [e] at h; simp at h
            | some q =>
              rw [e] at h
              simp at h
              subst h
              obtain ⟨a, ha, _⟩ := quoted_suf r' q e
              exact ⟨c :: d :: a, by simp [← ha], by simp⟩
      · split at h
        · simp at h
        · cases e : quoted r with
          | none => rw [e] at h; simp at h
          | some q =>
            rw [e] at h
            simp at h
            subst h
            obtain ⟨a, ha, _⟩ := quoted_suf r q e
            exact ⟨c :: a, by simp [← ha], by simp⟩
theorem quoted_cons (c : UInt8) (r : L) : quoted (c :: r) = if c = 34 then some ([], r) else if c = 92 then (match r with
      | [] => none
      | d :: r' => if ctl d = true then none else (quoted r').map fun p => (d :: p.1, p.2))
    else if ctl c = true then none else (quoted r).map fun p => (c :: p.1, p.2) := by rw [quoted.eq_def]; cases r <;> rfl
theorem oneB_mk (b : UInt8) : oneB (b.toNat : Int) = mk [b] := by
  unfold oneB mk
  simp
theorem app_mk (acc : ByteArray) (a b : L) : acc ++ mk a ++ mk b = acc ++ mk (a ++ b) := by
  apply ba_ext
  simp [mk_data]
theorem qtF_eq (s : L) : ∀ (d f k : Nat) (acc : ByteArray), k + d = s.length → d < f → qtF (mk s) f k acc = (quoted (s.drop k)).map fun p => (acc ++ mk p.1, s.length - p.2.length) := by
  intro d
  induction d using Nat.strongRecOn with
  | _ d ih =>
    intro f k acc hk hf
    obtain ⟨f, rfl⟩ : ∃ f', f = f' + 1 := ⟨f - 1, by omega⟩
    rw [qtF, mk_size]
    by_cases hd : d = 0
    · rw [if_neg (by omega), List.drop_eq_nil_of_le (by omega)]
      rfl
    rw [if_pos (by omega)]
    obtain ⟨b, e1, e2⟩ := mk_bt s k (by omega)
    rw [e1, e2, quoted_cons]
    have c34 : ((b.toNat : Int) = 34) ↔ b = 34 := u8i b 34 (by omega)
    have c92 : ((b.toNat : Int) = 92) ↔ b = 92 := u8i b 92 (by omega)
    by_cases h1 : b = 34
    · rw [if_pos (c34.2 h1), if_pos h1]
      simp only [Option.map_some]
      congr 2
      · apply ba_ext; simp [mk_data]
      · rw [List.length_drop]; omega
    · rw [if_neg (fun h => h1 (c34.1 h)), if_neg h1]
      by_cases h2 : b = 92
      · rw [if_pos (c92.2 h2), if_pos h2]
        by_cases h3 : k + 1 < s.length
        · rw [if_pos h3]
          obtain ⟨b', e3, e4⟩ := mk_bt s (k + 1) h3
          rw [e3, e4, badI_b]
          simp only
          by_cases h4 : ctl b' = true
          · rw [if_pos h4, if_pos h4]; rfl
          · rw [if_neg h4, if_neg h4, oneB_mk, ih (d - 2) (by omega) f (k + 2) _ (by omega) (by omega)]
            rw [Option.map_map]
            congr 1
            funext p
            simp only [Function.comp]
            rw [app_mk]
            rfl
        · rw [if_neg h3, List.drop_eq_nil_of_le (by omega)]
          rfl
      · rw [if_neg (fun h => h2 (c92.1 h)), if_neg h2, badI_b]
        by_cases h4 : ctl b = true
        · rw [if_pos h4, if_pos h4]; rfl
        · rw [if_neg h4, if_neg h4, oneB_mk, ih (d - 1) (by omega) f (k + 1) _ (by omega) (by omega)]
          rw [Option.map_map]
          congr 1
          funext p
          simp only [Function.comp]
          rw [app_mk]
          rfl
theorem quotedF (s : L) (hs : s.length ≤ 1000000000000) : Text_Quoted.f (mk s) = some (match quoted s with
    | some p => (mk p.1, true, mk p.2)
    | none => (mk [], false, mk s)) := by
  unfold Text_Quoted.f
  rw [if_pos (by rw [mk_size]; omega), qtF_eq s s.length ((mk s).size + 1) 0 _ (by omega) (by rw [mk_size]; omega), List.drop_zero]
  cases e : quoted s with
  | none => rfl
  | some p =>
    obtain ⟨a, ha, _⟩ := quoted_suf s p e
    simp only [Option.map_some, qtR]
    congr 1
    have e1 : (⟨#[]⟩ : ByteArray) ++ mk p.1 = mk p.1 := by apply ba_ext; simp [mk_data]
    have e2 : (mk s).extract (s.length - p.2.length) (mk s).size = mk p.2 := by
      rw [ext_from]
      congr 1
      have hl : s.length - p.2.length = a.length := by rw [ha, List.length_append]; omega
      rw [hl]
      conv => lhs; rw [ha]
      simp
    rw [e1, e2]

/-! ### A text at the head -/
def hasP (s p : L) : Bool := decide (s.take p.length = p)
theorem hasF (s p : L) : stringslite_HasPrefix.f (mk s) (mk p) = some (hasP s p) := by
  unfold stringslite_HasPrefix.f hasP
  rw [mk_size, mk_size]
  by_cases h : (s.length : Int) ≥ p.length
  · rw [if_pos h, if_pos (by omega), if_pos (by omega), ext_to, tl_mk, tl_mk]
    congr 1
    simp only [Int.toNat_natCast]
    rw [Bool.eq_iff_iff]
    simp
  · rw [if_neg h]
    congr 1
    symm
    rw [decide_eq_false_iff_not]
    intro e
    have := congrArg List.length e
    rw [List.length_take] at this
    omega
theorem cutPF (s p : L) : strings_CutPrefix.f (mk s) (mk p) = some (if hasP s p = true then (mk (s.drop p.length), true) else (mk s, false)) := by
  unfold strings_CutPrefix.f stringslite_CutPrefix.f
  rw [hasF]
  simp only [Option.bind_some]
  cases h : hasP s p with
  | false => simp
  | true =>
    have hl : p.length ≤ s.length := by
      unfold hasP at h
      have := congrArg List.length (of_decide_eq_true h)
      rw [List.length_take] at this
      omega
    rw [if_pos rfl, if_pos (by omega), if_pos (by rw [mk_size, mk_size]; omega)]
    simp only [Option.bind_some, if_true]
    rw [show (((mk p).size : Int)).toNat = p.length from by rw [mk_size]; rfl, ext_from]
theorem takeF (s p : L) : media_Text_Take.f (mk s) (mk p) = some (if hasP s p = true then (true, mk (s.drop p.length)) else (false, mk s)) := by
  unfold media_Text_Take.f
  rw [cutPF]
  cases h : hasP s p <;> simp
theorem hasP_one (s : L) (c : UInt8) : hasP s [c] = true ↔ s.head? = some c := by
  unfold hasP
  rw [decide_eq_true_eq]
  cases s with
  | nil => simp
  | cons x r => simp
theorem take1F (s : L) (c : UInt8) : media_Text_Take.f (mk s) (mk [c]) = some (if s.head? = some c then (true, mk s.tail) else (false, mk s)) := by
  rw [takeF]
  by_cases h : s.head? = some c
  · rw [if_pos ((hasP_one s c).2 h), if_pos h]
    cases s <;> rfl
  · rw [if_neg (fun e => h ((hasP_one s c).1 e)), if_neg h]

/-! ### Values, parameters -/
theorem valueF (s : L) (k : Nat) (hs : s.length ≤ 1000000000000) (hk : s.length < k) : ∃ q, media_Text_Value.f k (mk s) = some q ∧ (∀ v r, value s = some (v, r) → q = (mk v, true, mk r)) ∧ (value s = none → q.2.1 = false) := by
  unfold media_Text_Value.f
  rw [show (⟨#[34]⟩ : ByteArray) = mk [34] from rfl, take1F]
  simp only [Option.bind_some]
  by_cases h : s.head? = some 34
  · have hv : value s = quoted s.tail := by unfold value; rw [if_pos h]
    rw [if_pos h, hv]
    simp only [if_true]
    have hl : s.tail.length ≤ s.length := by rw [List.length_tail]; omega
    rw [quotedF s.tail (by omega)]
    simp only [Option.bind_some]
    cases e : quoted s.tail with
    | none => exact ⟨_, rfl, by simp, by simp⟩
    | some p => exact ⟨_, rfl, by rintro v r h; obtain rfl := Option.some.inj h; rfl, by simp⟩
  · have hv : value s = if (tok s).1 = [] then none else some (tok s) := by unfold value; rw [if_neg h]
    rw [if_neg h, hv]
    simp only [Bool.false_eq_true, if_false]
    rw [tokF s k hs hk]
    simp only [Option.bind_some, tl_mk]
    by_cases h2 : (tok s).1 = []
    · rw [if_pos h2, h2]
      exact ⟨_, rfl, by simp, by simp⟩
    · rw [if_neg h2]
      refine ⟨_, rfl, ?_, by simp⟩
      rintro v r h
      have e := Option.some.inj h
      rw [e] at h2 ⊢
      simp at h2
      simp [h2]
theorem tok_len (s : L) : (tok s).1.length + (tok s).2.length = s.length := by
  have := congrArg List.length (tok_parts s).1
  rw [List.length_append] at this
  omega
theorem value_len (s v r : L) (h : value s = some (v, r)) : r.length ≤ s.length := by
  unfold value at h
  split at h
  · obtain ⟨a, ha, _⟩ := quoted_suf _ _ h
    have := congrArg List.length ha
    rw [List.length_append, List.length_tail] at this
    simp at this
    omega
  · split at h
    · simp at h
    · have e := Option.some.inj h
      have := tok_len s
      rw [e] at this
      simp only at this
      omega
/-- What a parser of parameters gives: the list, or nothing. -/
def parsIs (o : Option (List (L × L))) (acc : List (L × L)) (q : List S49 × Bool) : Prop := match o with
  | some l => q = (pairsB (acc ++ l), true)
  | none => q = ([], false)
theorem params_l0 : ∀ (d f k : Nat) (s : L) (acc : List (L × L)), s.length ≤ d → d < f → 3 * d + 10 ≤ k → acc.length + s.length ≤ 1000000000000 →
    ∃ q, media_Text_Params.l0 k (pairsB acc) (mk (skip s)) = some q ∧ parsIs (params f s) acc (q.1, q.2.1) := by
  intro d
  induction d with
  | zero =>
    intro f k s acc hs hf hk ha
    obtain ⟨k, rfl⟩ : ∃ k', k = k' + 1 := ⟨k - 1, by omega⟩
    obtain ⟨f, rfl⟩ : ∃ f', f = f' + 1 := ⟨f - 1, by omega⟩
    obtain rfl : s = [] := List.eq_nil_of_length_eq_zero (by omega)
    rw [media_Text_Params.l0, if_pos (by rw [tl_mk]; rfl)]
    exact ⟨_, rfl, by simp [params, skip, parsIs]⟩
  | succ d ih =>
    intro f k s acc hs hf hk ha
    obtain ⟨k, rfl⟩ : ∃ k', k = k' + 2 := ⟨k - 2, by omega⟩
    obtain ⟨f, rfl⟩ : ∃ f', f = f' + 1 := ⟨f - 1, by omega⟩
    have hsk := skip_len s
    rw [media_Text_Params.l0, params, tl_mk]
    by_cases h0 : skip s = []
    · rw [if_pos h0, if_pos h0]
      exact ⟨_, rfl, by simp [parsIs]⟩
    rw [if_neg h0, if_neg h0, show (⟨#[59]⟩ : ByteArray) = mk [59] from rfl, take1F]
    simp only [Option.bind_some]
    by_cases h1 : (skip s).head? = some 59
    · rw [if_pos h1, if_neg (show ¬ ((skip s).head? ≠ some 59) by simpa using h1)]
      simp only [if_true]
      unfold media_Text_Skip.f
      rw [skipF]
      simp only [Option.bind_some]
      have l1 : (skip s).tail.length + 1 = (skip s).length := by
        cases e : skip s with
        | nil => exact absurd e h0
        | cons x r => simp
      have l2 := skip_len (skip s).tail
      rw [tokF (skip (skip s).tail) (k + 1) (by omega) (by omega)]
      simp only [Option.bind_some, tl_mk]
      have l3 := tok_len (skip (skip s).tail)
      generalize tok (skip (skip s).tail) = nt at *
      obtain ⟨n, t⟩ := nt
      simp only at l3 ⊢
      by_cases h2 : n = []
      · rw [if_pos h2, if_pos h2, media_Text_Params.j1, if_pos rfl]
        exact ⟨_, rfl, by simp [parsIs]⟩
      rw [if_neg h2, if_neg h2, show (⟨#[61]⟩ : ByteArray) = mk [61] from rfl, take1F]
      simp only [Option.bind_some]
      by_cases h3 : t.head? = some 61
      · rw [if_pos h3, if_neg (show ¬ (t.head? ≠ some 61) by simpa using h3)]
        simp only [Bool.not_true]
        rw [media_Text_Params.j1, if_neg (by decide)]
        have l4 : t.tail.length ≤ t.length := by rw [List.length_tail]; omega
        obtain ⟨q, hq, hy, hn⟩ := valueF t.tail k (by omega) (by omega)
        rw [hq]
        simp only [Option.bind_some]
        cases hv : value t.tail with
        | none =>
          rw [hn hv, if_neg (by decide)]
          exact ⟨_, rfl, by simp [parsIs]⟩
        | some p =>
          obtain ⟨v, r⟩ := p
          have hq2 := hy v r hv
          subst hq2
          have l5 := value_len _ _ _ hv
          simp only [if_true]
          rw [lowF n (by omega)]
          simp only [Option.bind_some]
          rw [if_pos (by rw [pairsB_len]; omega)]
          unfold media_Text_Skip.f
          rw [skipF]
          simp only [Option.bind_some]
          obtain ⟨q, hq, hp⟩ := ih f k r (acc ++ [(low n, v)]) (by omega) (by omega) (by omega) (by simp only [List.length_append, List.length_singleton]; omega)
          refine ⟨q, ?_, ?_⟩
          · rw [pairsB_app] at hq
            exact hq
          · unfold parsIs at hp ⊢
            cases e : params f r with
            | none => rw [e] at hp; exact hp
            | some l =>
              rw [e] at hp
              simp only [Option.map_some] at hp ⊢
              rw [hp]
              simp
      · rw [if_neg h3, if_pos (show t.head? ≠ some 61 by simpa using h3)]
        simp only [Bool.not_false]
        rw [media_Text_Params.j1, if_pos rfl]
        exact ⟨_, rfl, by simp [parsIs]⟩
    · rw [if_neg h1, if_pos (show (skip s).head? ≠ some 59 by simpa using h1)]
      exact ⟨_, rfl, by simp [parsIs]⟩
theorem params_more : ∀ (d f g : Nat) (s : L), s.length ≤ d → d < f → d < g → params f s = params g s := by
  intro d
  induction d with
  | zero =>
    intro f g s hs hf hg
    obtain ⟨f, rfl⟩ : ∃ f', f = f' + 1 := ⟨f - 1, by omega⟩
    obtain ⟨g, rfl⟩ : ∃ g', g = g' + 1 := ⟨g - 1, by omega⟩
    obtain rfl : s = [] := List.eq_nil_of_length_eq_zero (by omega)
    simp [params, skip]
  | succ d ih =>
    intro f g s hs hf hg
    obtain ⟨f, rfl⟩ : ∃ f', f = f' + 1 := ⟨f - 1, by omega⟩
    obtain ⟨g, rfl⟩ : ∃ g', g = g' + 1 := ⟨g - 1, by omega⟩
    have hsk := skip_len s
    rw [params, params]
    by_cases h0 : skip s = []
    · rw [if_pos h0, if_pos h0]
    rw [if_neg h0, if_neg h0]
    have l1 : (skip s).tail.length + 1 = (skip s).length := by
      cases e : skip s with
      | nil => exact absurd e h0
      | cons x r => simp
    have l2 := skip_len (skip s).tail
    have l3 := tok_len (skip (skip s).tail)
    cases hv : value (tok (skip (skip s).tail)).2.tail with
    | none => rfl
    | some p =>
      have l5 := value_len _ p.1 p.2 hv
      rw [List.length_tail] at l5
      simp only
      rw [ih f g p.2 (by omega) (by omega) (by omega)]
theorem paramsF (s : L) (k : Nat) (hs : s.length ≤ 100000000000) (hk : 3 * s.length + 10 ≤ k) : ∃ q, media_Text_Params.f k (mk s) = some q ∧ parsIs (pars s) [] (q.1, q.2.1) := by
  unfold media_Text_Params.f media_Text_Skip.f
  rw [skipF]
  simp only [Option.bind_some]
  exact params_l0 s.length (s.length + 1) k s [] (Nat.le_refl _) (by omega) hk (by simp; omega)
end Go.Proofs.YteonhdfjfjpbjaaGreatDoor.Sp

/- SpF -/
namespace Go.Proofs.YteonhdfjfjpbjaaGreatDoor.Sp
open Go Go.RowKit Go.Proofs.YteonhdfjfjpbjaaGreatDoorW.PrintWords Go.Proofs.YteonhdfjfjpbjaaGreatDoorW.PrintLast Go.Proofs.YteonhdfjfjpbjaaGreatDoor.O Go.Proofs.YteonhdfjfjpbjaaGreatDoor.P
set_option linter.unusedVariables false
set_option linter.unusedSimpArgs false

theorem w1 (i : Nat) (h : i ≤ 1000000000000) : wrap64 ((i : Int) + 1) = ((i + 1 : Nat) : Int) := by rw [wrap_id (by omega) (by omega)]; omega
theorem w2 (i : Nat) (h : i ≤ 1000000000000) : wrap64 ((i : Int) + 2) = ((i + 2 : Nat) : Int) := by rw [wrap_id (by omega) (by omega)]; omega
theorem ext1 (c : UInt8) (r : L) : (mk (c :: r)).extract 1 (mk (c :: r)).size = mk r := by rw [ext_from]; rfl

/-! ### Blanks, tokens -/
theorem rskip_l0 : ∀ (s : L) (k : Nat), s.length < k → broadsheetref13_Skip.l0 k (mk s) = some (mk (skip s))
  | [], k, hk => by
    obtain ⟨k, rfl⟩ : ∃ k', k = k' + 1 := ⟨k - 1, by omega⟩
    rw [broadsheetref13_Skip.l0, if_neg (by rw [mk_size]; simp)]
    rfl
  | c :: r, k, hk => by
    obtain ⟨k, rfl⟩ : ∃ k', k = k' + 1 := ⟨k - 1, by omega⟩
    simp only [List.length_cons] at hk
    have ih := rskip_l0 r k (by omega)
    rw [broadsheetref13_Skip.l0, if_pos (by rw [mk_size]; simp only [List.length_cons]; omega), if_pos (by rw [mk_size]; simp only [List.length_cons]; omega), bt_head]
    have h32 : ((c.toNat : Int) = 32) ↔ c = 32 := u8i c 32 (by omega)
    have h9 : ((c.toNat : Int) = 9) ↔ c = 9 := u8i c 9 (by omega)
    by_cases c32 : c = 32
    · rw [if_pos (h32.2 c32), if_pos (by rw [mk_size]; simp only [List.length_cons]; omega), ext1, ih]
      unfold skip
      rw [List.dropWhile_cons_of_pos (by simp [bl, c32])]
    · rw [if_neg (fun h => c32 (h32.1 h))]
      by_cases c9 : c = 9
      · rw [if_pos (h9.2 c9), if_pos (by rw [mk_size]; simp only [List.length_cons]; omega), ext1, ih]
        unfold skip
        rw [List.dropWhile_cons_of_pos (by simp [bl, c9])]
      · rw [if_neg (fun h => c9 (h9.1 h))]
        unfold skip
        rw [List.dropWhile_cons_of_neg (by simp [bl, c32, c9])]
theorem rskipF (s : L) (k : Nat) (hk : s.length < k) : broadsheetref13_Skip.f k (mk s) = some (mk (skip s)) := rskip_l0 s k hk
theorem rtb_all : ∀ a : Fin 256, broadsheetref13_TokenByte.f 1 ((UInt8.ofNat a.val).toNat : Int) = some (tokB (UInt8.ofNat a.val)) := by decide +kernel
theorem rtbF (c : UInt8) (k : Nat) (hk : 1 ≤ k) : broadsheetref13_TokenByte.f k (c.toNat : Int) = some (tokB c) := by
  obtain ⟨k, rfl⟩ : ∃ k', k = k' + 1 := ⟨k - 1, by omega⟩
  obtain ⟨a, rfl⟩ := u8_fin c
  rw [← rtb_all a]
  rfl
theorem rtok_l0 (s : L) (hs : s.length ≤ 1000000000000) : ∀ (d k i : Nat), i + d = s.length → d + 1 < k →
    broadsheetref13_Token.l0 k (mk s) i = some (mk (s.take (i + ((s.drop i).takeWhile tokB).length)), mk (s.drop (i + ((s.drop i).takeWhile tokB).length))) := by
  intro d
  induction d with
  | zero =>
    intro k i hi hk
    obtain ⟨k, rfl⟩ : ∃ k', k = k' + 1 := ⟨k - 1, by omega⟩
    rw [broadsheetref13_Token.l0, if_neg (by rw [mk_size]; omega), if_pos (by omega), if_pos (by rw [mk_size]; omega), List.drop_eq_nil_of_le (by omega)]
    simp only [Int.toNat_natCast, List.takeWhile_nil, List.length_nil, Nat.add_zero, ext_to, ext_from]
  | succ d ih =>
    intro k i hi hk
    obtain ⟨k, rfl⟩ : ∃ k', k = k' + 1 := ⟨k - 1, by omega⟩
    obtain ⟨b, e1, e2⟩ := mk_bt s i (by omega)
    rw [broadsheetref13_Token.l0, if_pos (by rw [mk_size]; omega), if_pos (by omega), e2, rtbF b k (by omega)]
    simp only [Option.bind_some]
    by_cases ht : tokB b = true
    · rw [if_pos ht, w1 i (by omega), ih k (i + 1) (by omega) (by omega), e1, List.takeWhile_cons_of_pos ht]
      simp only [List.length_cons]
      rw [show i + 1 + ((s.drop (i + 1)).takeWhile tokB).length = i + (((s.drop (i + 1)).takeWhile tokB).length + 1) by omega]
    · rw [if_neg ht, if_pos (by rw [mk_size]; omega), e1, List.takeWhile_cons_of_neg ht]
      simp only [Int.toNat_natCast, List.length_nil, Nat.add_zero, ext_to, ext_from]
theorem rtokF (s : L) (k : Nat) (hs : s.length ≤ 1000000000000) (hk : s.length + 1 < k) : broadsheetref13_Token.f k (mk s) = some (mk (tok s).1, mk (tok s).2) := by
  unfold broadsheetref13_Token.f
  have := rtok_l0 s hs s.length k 0 (by omega) hk
  simp only [List.drop_zero, Nat.zero_add] at this
  rw [show (0 : Int) = ((0 : Nat) : Int) from rfl, this, take_tw, drop_tw]
  rfl

/-! ### Lists of numbers, letters made small -/
def nums (l : L) : List Int := l.map fun b => (b.toNat : Int)
theorem nums_str (l : L) : strOfNums (nums l) = mk l := by
  unfold strOfNums nums mk
  rw [List.map_map]
  have e : ((fun n : Int => UInt8.ofNat n.toNat) ∘ fun b : UInt8 => (b.toNat : Int)) = id := by
    funext b
    simp
  rw [e, List.map_id]
theorem nums_snoc (l : L) (b : UInt8) : nums l ++ [(b.toNat : Int)] = nums (l ++ [b]) := by simp [nums]
theorem nums_len (l : L) : (nums l).length = l.length := by simp [nums]
theorem lowB_int (b : UInt8) (h : 65 ≤ b.toNat ∧ b.toNat ≤ 90) : (((b.toNat : Int) + 32) % 256) = ((lowB b).toNat : Int) := by
  unfold lowB
  rw [if_pos h, UInt8.toNat_ofNat']
  omega
theorem rlow_l0 (s : L) (hs : s.length ≤ 1000000000000) : ∀ (d k i : Nat) (acc : L), i + d = s.length → d < k → acc.length ≤ i → broadsheetref07_Lower.l0 k (mk s) (nums acc) i = some (mk (acc ++ low (s.drop i))) := by
  intro d
  induction d with
  | zero =>
    intro k i acc hi hk ha
    obtain ⟨k, rfl⟩ : ∃ k', k = k' + 1 := ⟨k - 1, by omega⟩
    rw [broadsheetref07_Lower.l0, if_neg (by rw [mk_size]; omega), List.drop_eq_nil_of_le (by omega), nums_str]
    simp [low]
  | succ d ih =>
    intro k i acc hi hk ha
    obtain ⟨k, rfl⟩ : ∃ k', k = k' + 1 := ⟨k - 1, by omega⟩
    obtain ⟨b, e1, e2⟩ := mk_bt s i (by omega)
    have hlen : (nums acc).length < 140737488355328 := by rw [nums_len]; omega
    rw [broadsheetref07_Lower.l0, if_pos (by rw [mk_size]; omega), if_pos (by omega), e2, w1 i (by omega)]
    have hfin : ∀ x : UInt8, x = lowB b → broadsheetref07_Lower.l0 k (mk s) (nums acc ++ [(x.toNat : Int)]) ((i + 1 : Nat) : Int) = some (mk (acc ++ low (s.drop i))) := fun x hx => by
      rw [nums_snoc, ih k (i + 1) (acc ++ [x]) (by omega) (by omega) (by simp; omega), e1, hx]
      simp [low]
    by_cases h1 : (b.toNat : Int) ≥ 65
    · rw [if_pos h1]
      by_cases h2 : (b.toNat : Int) ≤ 90
      · rw [if_pos h2, if_pos hlen, lowB_int b (by omega)]
        exact hfin _ rfl
      · rw [if_neg h2, if_pos hlen]
        exact hfin b (by unfold lowB; rw [if_neg (by omega)])
    · rw [if_neg h1, if_pos hlen]
      exact hfin b (by unfold lowB; rw [if_neg (by omega)])
theorem rlowF (s : L) (k : Nat) (hs : s.length ≤ 1000000000000) (hk : s.length < k) : broadsheetref07_Lower.f k (mk s) = some (mk (low s)) := by
  have := rlow_l0 s hs s.length k 0 [] (by omega) hk (by simp)
  rwa [List.nil_append, List.drop_zero] at this

/-! ### Quoted texts, values, parameters -/
theorem ctl_cases (b : UInt8) {α : Type} (x y : α) : (if (b.toNat : Int) < 32 then (if (b.toNat : Int) = 9 then (if (b.toNat : Int) = 127 then x else y) else x) else (if (b.toNat : Int) = 127 then x else y)) = if ctl b = true then x else y := by
  have h9 : ((b.toNat : Int) = 9) ↔ b = 9 := u8i b 9 (by omega)
  have h127 : ((b.toNat : Int) = 127) ↔ b = 127 := u8i b 127 (by omega)
  unfold ctl
  by_cases h1 : (b.toNat : Int) < 32
  · have h1' : b.toNat < 32 := by omega
    rw [if_pos h1]
    by_cases h2 : b = 9
    · rw [if_pos (h9.2 h2), if_neg (by rw [h9.2 h2]; decide), if_neg (by simp [h2])]
    · rw [if_neg (fun h => h2 (h9.1 h)), if_pos (by simp [h1', h2])]
  · have h1' : ¬ b.toNat < 32 := by omega
    rw [if_neg h1]
    by_cases h2 : b = 127
    · rw [if_pos (h127.2 h2), if_pos (by simp [h2])]
    · rw [if_neg (fun h => h2 (h127.1 h)), if_neg (by simp [h1', h2])]
theorem rquot_l0 (s : L) (hs : s.length ≤ 1000000000000) : ∀ (d k i : Nat) (acc : L), i + d = s.length → d < k → acc.length ≤ i →
    broadsheetref13_Quoted.l0 k (mk s) (nums acc) i = some (match quoted (s.drop i) with
      | some p => (mk (acc ++ p.1), mk p.2, true)
      | none => (mk [], mk [], false)) := by
  intro d
  induction d using Nat.strongRecOn with
  | _ d ih =>
    intro k i acc hi hk ha
    obtain ⟨k, rfl⟩ : ∃ k', k = k' + 1 := ⟨k - 1, by omega⟩
    by_cases hd : d = 0
    · rw [broadsheetref13_Quoted.l0, if_neg (by rw [mk_size]; omega), List.drop_eq_nil_of_le (by omega)]
      rfl
    obtain ⟨b, e1, e2⟩ := mk_bt s i (by omega)
    have hlen : (nums acc).length < 140737488355328 := by rw [nums_len]; omega
    have h34 : ((b.toNat : Int) = 34) ↔ b = 34 := u8i b 34 (by omega)
    have h92 : ((b.toNat : Int) = 92) ↔ b = 92 := u8i b 92 (by omega)
    rw [broadsheetref13_Quoted.l0, if_pos (by rw [mk_size]; omega), if_pos (by omega), e2, w1 i (by omega), e1, quoted_cons]
    by_cases c34 : b = 34
    · rw [if_pos (h34.2 c34), if_pos (by omega), if_pos (by rw [mk_size]; omega), if_pos c34, nums_str]
      simp only [Int.toNat_natCast, ext_from, List.append_nil]
    rw [if_neg (fun h => c34 (h34.1 h)), if_neg c34]
    by_cases c92 : b = 92
    · rw [if_pos (h92.2 c92), if_pos c92]
      by_cases hend : i + 1 = s.length
      · rw [if_pos (by rw [mk_size]; omega), List.drop_eq_nil_of_le (by omega)]
        rfl
      · rw [if_neg (by rw [mk_size]; omega), if_pos (by omega), if_pos (by rw [mk_size]; omega)]
        obtain ⟨b', e3, e4⟩ := mk_bt s (i + 1) (by omega)
        rw [e4, ctl_cases, e3]
        simp only
        by_cases hc : ctl b' = true
        · rw [if_pos hc, if_pos hc]
          rfl
        · rw [if_neg hc, if_neg hc, if_pos hlen, nums_snoc, w1 (i + 1) (by omega), ih (d - 2) (by omega) k (i + 1 + 1) (acc ++ [b']) (by omega) (by omega) (by simp; omega)]
          cases quoted (s.drop (i + 1 + 1)) with
          | none => rfl
          | some p => simp
    · rw [if_neg (fun h => c92 (h92.1 h)), if_neg c92, ctl_cases]
      by_cases hc : ctl b = true
      · rw [if_pos hc, if_pos hc]
        rfl
      · rw [if_neg hc, if_neg hc, if_pos hlen, nums_snoc, ih (d - 1) (by omega) k (i + 1) (acc ++ [b]) (by omega) (by omega) (by simp; omega)]
        cases quoted (s.drop (i + 1)) with
        | none => rfl
        | some p => simp
theorem rquotF (s : L) (k : Nat) (hs : s.length ≤ 1000000000000) (hk : s.length < k) : broadsheetref13_Quoted.f k (mk s) = some (match quoted s with
      | some p => (mk p.1, mk p.2, true)
      | none => (mk [], mk [], false)) := by
  have := rquot_l0 s hs s.length k 0 [] (by omega) hk (by simp)
  rw [List.drop_zero] at this
  exact this
theorem rvalueF (s : L) (k : Nat) (hs : s.length ≤ 1000000000000) (hk : s.length + 3 < k) : ∃ q, broadsheetref13_value.f k (mk s) = some q ∧ (∀ v r, value s = some (v, r) → q = (mk v, mk r, true)) ∧ (value s = none → q.2.2 = false) := by
  obtain ⟨k, rfl⟩ : ∃ k', k = k' + 1 := ⟨k - 1, by omega⟩
  have htok : ∀ (hv : value s = if (tok s).1 = [] then none else some (tok s)), ∃ q, broadsheetref13_value.j0 (k + 1) (mk s) false = some q ∧ (∀ v r, value s = some (v, r) → q = (mk v, mk r, true)) ∧ (value s = none → q.2.2 = false) := fun hv => by
    rw [broadsheetref13_value.j0, if_neg (by decide), rtokF s k hs (by omega), hv]
    simp only [Option.bind_some, tl_mk]
    by_cases h2 : (tok s).1 = []
    · rw [if_pos h2, h2]
      exact ⟨_, rfl, by simp, by simp⟩
    · rw [if_neg h2]
      refine ⟨_, rfl, ?_, by simp⟩
      rintro v r h
      have e := Option.some.inj h
      rw [e] at h2 ⊢
      simp at h2
      simp [h2]
  unfold broadsheetref13_value.f
  rw [tl_mk]
  cases s with
  | nil =>
    rw [if_pos rfl]
    exact htok (by unfold value; rw [if_neg (by simp)])
  | cons c r =>
    rw [if_neg (by simp), if_pos (by rw [mk_size]; simp only [List.length_cons]; omega), bt_head]
    have h34 : ((c.toNat : Int) = 34) ↔ c = 34 := u8i c 34 (by omega)
    by_cases c34 : c = 34
    · have hb : ((c.toNat : Int) == 34) = true := by rw [beq_iff_eq]; exact h34.2 c34
      have hv : value (c :: r) = quoted r := by unfold value; rw [if_pos (by simp [c34])]; rfl
      rw [hb, broadsheetref13_value.j0, if_pos rfl, if_pos (by rw [mk_size]; simp only [List.length_cons]; omega), ext1, hv]
      simp only [List.length_cons] at hs hk
      rw [rquotF r k (by omega) (by omega)]
      simp only [Option.bind_some]
      cases e : quoted r with
      | none => exact ⟨_, rfl, by simp, by simp⟩
      | some p => exact ⟨_, rfl, by rintro v r h; obtain rfl := Option.some.inj h; rfl, by simp⟩
    · have hb : ((c.toNat : Int) == 34) = false := by
        rw [Bool.eq_false_iff]
        intro h
        exact c34 (h34.1 (by simpa using h))
      rw [hb]
      exact htok (by unfold value; rw [if_neg (by simp [c34])])
theorem rparams_l0 : ∀ (d f k : Nat) (s : L) (acc : List (L × L)), s.length ≤ d → d < f → 3 * d + 10 ≤ k → acc.length + s.length ≤ 1000000000000 →
    ∃ q, broadsheetref13_Params.l0 k (mk s) (pairsB acc) = some q ∧ parsIs (params f s) acc q := by
  intro d
  induction d with
  | zero =>
    intro f k s acc hs hf hk ha
    obtain ⟨k, rfl⟩ : ∃ k', k = k' + 1 := ⟨k - 1, by omega⟩
    obtain ⟨f, rfl⟩ : ∃ f', f = f' + 1 := ⟨f - 1, by omega⟩
    obtain rfl : s = [] := List.eq_nil_of_length_eq_zero (by omega)
    rw [broadsheetref13_Params.l0, rskipF [] k (by simp; omega)]
    simp only [Option.bind_some, tl_mk]
    rw [if_pos (show skip [] = [] from rfl)]
    exact ⟨_, rfl, by simp [params, skip, parsIs]⟩
  | succ d ih =>
    intro f k s acc hs hf hk ha
    obtain ⟨k, rfl⟩ : ∃ k', k = k' + 2 := ⟨k - 2, by omega⟩
    obtain ⟨f, rfl⟩ : ∃ f', f = f' + 1 := ⟨f - 1, by omega⟩
    have hsk := skip_len s
    rw [broadsheetref13_Params.l0, params, rskipF s (k + 1) (by omega)]
    simp only [Option.bind_some, tl_mk]
    generalize skip s = u at *
    cases u with
    | nil =>
      rw [if_pos (show ([] : L) = [] from rfl), if_pos (show ([] : L) = [] from rfl)]
      exact ⟨_, rfl, by simp [parsIs]⟩
    | cons c r =>
      simp only [List.length_cons] at hsk
      have h59 : ((c.toNat : Int) = 59) ↔ c = 59 := u8i c 59 (by omega)
      rw [if_neg (show ¬ (c :: r = []) by simp), if_neg (show ¬ (c :: r = []) by simp), if_pos (by rw [mk_size]; simp only [List.length_cons]; omega), bt_head]
      by_cases c59 : c = 59
      · rw [if_pos (h59.2 c59), if_neg (show ¬ ((c :: r).head? ≠ some 59) by simp [c59]), if_pos (by rw [mk_size]; simp only [List.length_cons]; omega), ext1, rskipF r (k + 1) (by omega)]
        simp only [Option.bind_some, List.tail_cons]
        have l2 := skip_len r
        rw [rtokF (skip r) (k + 1) (by omega) (by omega)]
        simp only [Option.bind_some, tl_mk]
        have l3 := tok_len (skip r)
        obtain ⟨n, t, hnt⟩ : ∃ n t, tok (skip r) = (n, t) := ⟨_, _, rfl⟩
        simp only [hnt] at l3 ⊢
        by_cases h2 : n = []
        · rw [if_pos h2, if_pos h2, broadsheetref13_Params.j1, if_pos rfl]
          exact ⟨_, rfl, by simp [parsIs]⟩
        rw [if_neg h2, if_neg h2]
        cases t with
        | nil =>
          rw [if_pos rfl, broadsheetref13_Params.j1, if_pos rfl, if_pos (show ([] : L).head? ≠ some 61 by simp)]
          exact ⟨_, rfl, by simp [parsIs]⟩
        | cons e t =>
          simp only [List.length_cons] at l3
          have h61 : ((e.toNat : Int) = 61) ↔ e = 61 := u8i e 61 (by omega)
          rw [if_neg (show ¬ (e :: t = []) by simp), if_pos (by rw [mk_size]; simp only [List.length_cons]; omega), bt_head, broadsheetref13_Params.j1]
          by_cases c61 : e = 61
          · have hb : ((e.toNat : Int) != 61) = false := by simp [bne, h61.2 c61]
            rw [hb, if_neg (by decide), if_pos (by rw [mk_size]; simp only [List.length_cons]; omega), ext1, if_neg (show ¬ ((e :: t).head? ≠ some 61) by simp [c61])]
            simp only [List.tail_cons]
            obtain ⟨q, hq, hy, hn⟩ := rvalueF t k (by omega) (by omega)
            rw [hq]
            simp only [Option.bind_some]
            cases hv : value t with
            | none =>
              rw [hn hv, if_neg (by decide)]
              exact ⟨_, rfl, by simp [parsIs]⟩
            | some p =>
              obtain ⟨v, r'⟩ := p
              have hq2 := hy v r' hv
              subst hq2
              have l5 := value_len _ _ _ hv
              simp only [if_true]
              rw [rlowF n k (by omega) (by omega)]
              simp only [Option.bind_some]
              rw [if_pos (by rw [pairsB_len]; omega)]
              obtain ⟨q, hq, hp⟩ := ih f k r' (acc ++ [(low n, v)]) (by omega) (by omega) (by omega) (by simp only [List.length_append, List.length_singleton]; omega)
              refine ⟨q, ?_, ?_⟩
              · rw [pairsB_app] at hq
                exact hq
              · unfold parsIs at hp ⊢
                cases e : params f r' with
                | none => rw [e] at hp; exact hp
                | some l =>
                  rw [e] at hp
                  simp only [Option.map_some] at hp ⊢
                  rw [hp]
                  simp
          · have hb : ((e.toNat : Int) != 61) = true := by
              rw [bne_iff_ne]
              exact fun h => c61 (h61.1 h)
            rw [hb, if_pos rfl, if_pos (show (e :: t).head? ≠ some 61 by simpa using c61)]
            exact ⟨_, rfl, by simp [parsIs]⟩
      · rw [if_neg (fun h => c59 (h59.1 h)), if_pos (show (c :: r).head? ≠ some 59 by simpa using c59)]
        exact ⟨_, rfl, by simp [parsIs]⟩
theorem rparamsF (s : L) (k : Nat) (hs : s.length ≤ 100000000000) (hk : 3 * s.length + 10 ≤ k) : ∃ q, broadsheetref13_Params.f k (mk s) = some q ∧ parsIs (pars s) [] q := by
  unfold broadsheetref13_Params.f
  exact rparams_l0 s.length (s.length + 1) k s [] (Nat.le_refl _) (by omega) hk (by simp; omega)
theorem parsIs_one {o : Option (List (L × L))} {acc : List (L × L)} {q q' : List S49 × Bool} (h : parsIs o acc q) (h' : parsIs o acc q') : q = q' := by
  unfold parsIs at h h'
  cases o with
  | none => rw [h, h']
  | some l => simp only at h h'; rw [h, h']
theorem parsIs_ok {o : Option (List (L × L))} {acc : List (L × L)} {q : List S49 × Bool} (h : parsIs o acc q) : q.2 = o.isSome := by
  unfold parsIs at h
  cases o with
  | none => rw [h]; rfl
  | some l => simp only at h; rw [h]; rfl

/-! ### Lines -/
theorem rline_l0 (s : L) (hs : s.length ≤ 1000000000000) : ∀ (d k i : Nat), i + d = s.length → d < k →
    broadsheetref18_line.l0 k (mk s) i = some (match line (s.drop i) with
      | some p => ((i + p.1.length : Nat) : Int)
      | none => -1) := by
  intro d
  induction d with
  | zero =>
    intro k i hi hk
    obtain ⟨k, rfl⟩ : ∃ k', k = k' + 1 := ⟨k - 1, by omega⟩
    rw [broadsheetref18_line.l0, w1 i (by omega), if_neg (by rw [mk_size]; omega), List.drop_eq_nil_of_le (by omega)]
    rfl
  | succ d ih =>
    intro k i hi hk
    obtain ⟨k, rfl⟩ : ∃ k', k = k' + 1 := ⟨k - 1, by omega⟩
    obtain ⟨b, e1, e2⟩ := mk_bt s i (by omega)
    rw [broadsheetref18_line.l0, w1 i (by omega), e1, line]
    by_cases hlt : i + 1 < s.length
    · obtain ⟨b', e3, e4⟩ := mk_bt s (i + 1) hlt
      have hI := ih k (i + 1) (by omega) (by omega)
      have hrest : (some (match line (s.drop (i + 1)) with
          | some p => ((i + 1 + p.1.length : Nat) : Int)
          | none => -1) : Option Int) = some (match (line (s.drop (i + 1))).map fun p => (b :: p.1, p.2) with
          | some p => ((i + p.1.length : Nat) : Int)
          | none => -1) := by
        cases line (s.drop (i + 1)) with
        | none => rfl
        | some p =>
          simp only [Option.map_some, List.length_cons]
          congr 2
          omega
      rw [if_pos (by rw [mk_size]; omega), if_pos (by omega), if_pos (by rw [mk_size]; omega), e2, e4]
      have h13 : ((b.toNat : Int) = 13) ↔ b = 13 := u8i b 13 (by omega)
      have h10 : ((b'.toNat : Int) = 10) ↔ b' = 10 := u8i b' 10 (by omega)
      by_cases c13 : b = 13
      · rw [if_pos (h13.2 c13), if_pos (by omega)]
        by_cases c10 : b' = 10
        · rw [if_pos (h10.2 c10), if_pos ⟨c13, by rw [e3]; simp [c10]⟩]
          simp
        · rw [if_neg (fun h => c10 (h10.1 h)), if_neg (by rw [e3]; simp [c10]), hI]
          exact hrest
      · rw [if_neg (fun h => c13 (h13.1 h)), if_neg (fun h => c13 h.1), hI]
        exact hrest
    · rw [if_neg (by rw [mk_size]; omega)]
      have hnil : s.drop (i + 1) = [] := List.drop_eq_nil_of_le (by omega)
      rw [hnil, if_neg (by simp)]
      rfl
theorem rLineF (s : L) (k : Nat) (hs : s.length ≤ 1000000000000) (hk : s.length < k) : broadsheetref18_Line.f k (mk s) = some (match line s with
      | some p => (mk p.1, mk p.2, true)
      | none => (mk [], mk [], false)) := by
  have h0 := rline_l0 s hs s.length k 0 (by omega) hk
  rw [List.drop_zero] at h0
  unfold broadsheetref18_Line.f broadsheetref18_line.f
  rw [show (0 : Int) = ((0 : Nat) : Int) from rfl, h0]
  simp only [Option.bind_some]
  cases e : line s with
  | none => rw [if_pos (by simp)]; rfl
  | some p =>
    have hl := line_len s p e
    have hl2 := congrArg List.length hl
    simp only [List.length_append, List.length_cons] at hl2
    simp only [Nat.zero_add]
    rw [if_neg (by omega), if_pos (by omega), if_pos (by rw [mk_size]; omega), w2 _ (by omega), if_pos (by omega), if_pos (by rw [mk_size]; omega)]
    simp only [Int.toNat_natCast, ext_to, ext_from]
    have t1 : (p.1 ++ 13 :: 10 :: p.2).take p.1.length = p.1 := List.take_left' rfl
    have t2 : (p.1 ++ 13 :: 10 :: p.2).drop (p.1.length + 2) = p.2 := by
      rw [← List.drop_drop, List.drop_left' rfl]
      rfl
    rw [← hl] at t1 t2
    rw [t1, t2]

/-! ### Trimming, values -/
theorem rtrim_l0 : ∀ (n : Nat) (s : L) (k : Nat), s.length ≤ n → n < k → s.length ≤ 1000000000000 → broadsheetref18_Trim.l0 k (mk s) = some (mk (skip s.reverse).reverse) := by
  intro n
  induction n with
  | zero =>
    intro s k hn hk hs
    obtain ⟨k, rfl⟩ : ∃ k', k = k' + 1 := ⟨k - 1, by omega⟩
    obtain rfl : s = [] := List.eq_nil_of_length_eq_zero (by omega)
    rw [broadsheetref18_Trim.l0, if_neg (by rw [mk_size]; simp)]
    rfl
  | succ n ih =>
    intro s k hn hk hs
    obtain ⟨k, rfl⟩ : ∃ k', k = k' + 1 := ⟨k - 1, by omega⟩
    rw [broadsheetref18_Trim.l0]
    by_cases h0 : s = []
    · subst h0
      rw [if_neg (by rw [mk_size]; simp)]
      rfl
    have hp : 0 < s.length := List.length_pos_iff.2 h0
    have hw : wrap64 ((((mk s).size : Nat) : Int) - 1) = ((s.length - 1 : Nat) : Int) := by rw [mk_size, wrap_id (by omega) (by omega)]; omega
    obtain ⟨b, e1, e2⟩ := mk_bt s (s.length - 1) (by omega)
    have e3 : s.drop (s.length - 1 + 1) = [] := List.drop_eq_nil_of_le (by omega)
    rw [e3] at e1
    have es : s = s.take (s.length - 1) ++ [b] := by rw [← e1, List.take_append_drop]
    rw [hw, if_pos (by rw [mk_size]; omega), if_pos (by omega), if_pos (by rw [mk_size]; omega), e2]
    have h32 : ((b.toNat : Int) = 32) ↔ b = 32 := u8i b 32 (by omega)
    have h9 : ((b.toNat : Int) = 9) ↔ b = 9 := u8i b 9 (by omega)
    simp only [Int.toNat_natCast, ext_to]
    have hI := ih (s.take (s.length - 1)) k (by rw [List.length_take]; omega) (by omega) (by rw [List.length_take]; omega)
    have hrev : s.reverse = b :: (s.take (s.length - 1)).reverse := by conv => lhs; rw [es]; simp
    have hgo : bl b = true → skip s.reverse = skip (s.take (s.length - 1)).reverse := fun h => by
      rw [hrev]
      unfold skip
      rw [List.dropWhile_cons_of_pos h]
    by_cases c32 : b = 32
    · rw [if_pos (h32.2 c32), if_pos (by rw [mk_size]; omega), hI, hgo (by simp [bl, c32])]
    · rw [if_neg (fun h => c32 (h32.1 h))]
      by_cases c9 : b = 9
      · rw [if_pos (h9.2 c9), if_pos (by rw [mk_size]; omega), hI, hgo (by simp [bl, c9])]
      · rw [if_neg (fun h => c9 (h9.1 h))]
        have : skip s.reverse = s.reverse := by
          rw [hrev]
          unfold skip
          rw [List.dropWhile_cons_of_neg (by simp [bl, c32, c9])]
        rw [this, List.reverse_reverse]
theorem rtrimF (s : L) (k : Nat) (hs : s.length ≤ 1000000000000) (hk : s.length < k) : broadsheetref18_Trim.f k (mk s) = some (mk (trim s)) := by
  have := skip_len s
  unfold broadsheetref18_Trim.f
  rw [rskipF s k hk]
  simp only [Option.bind_some]
  rw [rtrim_l0 s.length (skip s) k (by omega) hk (by omega)]
  rfl
theorem rvalue_l0 (s : L) (hs : s.length ≤ 1000000000000) : ∀ (d k i : Nat), i + d = s.length → d + s.length + 1 < k →
    broadsheetref18_Value.l0 k (mk s) i = some ((s.drop i).all (fun c => !ctl c) && decide (trim s = s)) := by
  intro d
  induction d with
  | zero =>
    intro k i hi hk
    obtain ⟨k, rfl⟩ : ∃ k', k = k' + 1 := ⟨k - 1, by omega⟩
    rw [broadsheetref18_Value.l0, if_neg (by rw [mk_size]; omega), rtrimF s k hs (by omega), List.drop_eq_nil_of_le (by omega)]
    simp only [Option.bind_some, tl_mk, List.all_nil, Bool.true_and]
    congr 1
    rw [Bool.eq_iff_iff]
    simp
  | succ d ih =>
    intro k i hi hk
    obtain ⟨k, rfl⟩ : ∃ k', k = k' + 1 := ⟨k - 1, by omega⟩
    obtain ⟨b, e1, e2⟩ := mk_bt s i (by omega)
    rw [broadsheetref18_Value.l0, if_pos (by rw [mk_size]; omega), if_pos (by omega), e2, w1 i (by omega), ctl_cases, e1, List.all_cons, ih k (i + 1) (by omega) (by omega)]
    cases hc : ctl b <;> simp
theorem rfvalF (s : L) (k : Nat) (hs : s.length ≤ 1000000000000) (hk : 2 * s.length + 2 < k) : broadsheetref18_Value.f k (mk s) = some (fval s) := by
  have := rvalue_l0 s hs s.length k 0 (by omega) (by omega)
  rw [List.drop_zero] at this
  exact this

/-! ### Fields -/
theorem pairOf_of {l n t : L} (h : tok l = (n, t)) : pairOf l = if n = [] then none else if t.head? ≠ some 58 then none else if fval (trim t.tail) = true then some (low n, trim t.tail) else none := by
  unfold pairOf
  rw [h]
/-- What a reader of fields gives, as texts. -/
def fldB (r : List (L × L) × L × Int) : List S49 × ByteArray × Int := (pairsB r.1, mk r.2.1, r.2.2)
theorem rparse_l0 (s0 : L) (hs0 : s0.length ≤ 100000000000) : ∀ (d f k : Nat) (s : L) (acc : List (L × L)), s.length ≤ d → d < f → 6 * d + 20 ≤ k → s.length ≤ s0.length → acc.length + s.length ≤ s0.length →
    broadsheetref18_Parse.l0 k (mk s0) (pairsB acc) (mk s) = some (fldB (fparse s0.length f s acc)) := by
  intro d
  induction d with
  | zero =>
    intro f k s acc hs hf hk hl ha
    obtain ⟨k, rfl⟩ : ∃ k', k = k' + 2 := ⟨k - 2, by omega⟩
    obtain ⟨f, rfl⟩ : ∃ f', f = f' + 1 := ⟨f - 1, by omega⟩
    obtain rfl : s = [] := List.eq_nil_of_length_eq_zero (by omega)
    rw [broadsheetref18_Parse.l0, rLineF [] (k + 1) (by simp) (by simp), fparse]
    simp only [Option.bind_some, line]
    rw [if_neg (by decide), broadsheetref18_Parse.j1, if_pos rfl, mk_size]
    by_cases h8 : s0.length > 8000
    · rw [if_pos (by omega), if_pos h8]; rfl
    · rw [if_neg (by omega), if_neg h8]; rfl
  | succ d ih =>
    intro f k s acc hs hf hk hl ha
    obtain ⟨k, rfl⟩ : ∃ k', k = k' + 3 := ⟨k - 3, by omega⟩
    obtain ⟨f, rfl⟩ : ∃ f', f = f' + 1 := ⟨f - 1, by omega⟩
    rw [broadsheetref18_Parse.l0, rLineF s (k + 2) (by omega) (by omega), fparse]
    have hbad : (if (((mk s0).size : Nat) : Int) > 8000 then (some (([] : List S49), (⟨#[]⟩ : ByteArray), (2 : Int))) else (some (([] : List S49), (⟨#[]⟩ : ByteArray), (180 : Int)))) = some (fldB ([], [], if s0.length > 8000 then 2 else 180)) := by
      rw [mk_size]
      by_cases h8 : s0.length > 8000
      · rw [if_pos (by omega), if_pos h8]; rfl
      · rw [if_neg (by omega), if_neg h8]; rfl
    cases e : line s with
    | none =>
      simp only [Option.bind_some]
      rw [if_neg (by decide), broadsheetref18_Parse.j1, if_pos rfl, hbad]
    | some p =>
      obtain ⟨l, more⟩ := p
      have hll := congrArg List.length (line_len s _ e)
      simp only [List.length_append, List.length_cons] at hll
      simp only [Option.bind_some, if_true]
      have hw : wrap64 ((((mk s0).size : Nat) : Int) - (((mk more).size : Nat) : Int)) = ((s0.length - more.length : Nat) : Int) := by rw [mk_size, mk_size, wrap_id (by omega) (by omega)]; omega
      rw [hw]
      by_cases h8 : s0.length - more.length > 8000
      · rw [decide_eq_true (show ((s0.length - more.length : Nat) : Int) > 8000 by omega), if_pos h8, broadsheetref18_Parse.j1, if_pos rfl, hbad]
      rw [decide_eq_false (show ¬ ((s0.length - more.length : Nat) : Int) > 8000 by omega), if_neg h8, broadsheetref18_Parse.j1, if_neg (by decide), tl_mk]
      by_cases h0 : l = []
      · rw [if_pos h0, if_pos h0]; rfl
      rw [if_neg h0, if_neg h0, rtokF l (k + 1) (by omega) (by omega)]
      simp only [Option.bind_some, tl_mk]
      have l3 := tok_len l
      obtain ⟨n, t, hnt⟩ : ∃ n t, tok l = (n, t) := ⟨_, _, rfl⟩
      have hpo := pairOf_of hnt
      simp only [hnt] at l3 ⊢
      have hno : pairOf l = none → broadsheetref18_Parse.j2 (k + 1) (mk s0) (pairsB acc) (mk more) (mk n) (mk t) true = some (fldB (match pairOf l with
          | none => ([], [], 180)
          | some p => fparse s0.length f more (acc ++ [p]))) := fun h => by
        rw [h, broadsheetref18_Parse.j2, if_pos rfl]
        rfl
      by_cases h2 : n = []
      · rw [if_pos h2] at hpo ⊢
        exact hno hpo
      rw [if_neg h2] at hpo ⊢
      cases t with
      | nil =>
        rw [if_pos (show ([] : L).head? ≠ some 58 by simp)] at hpo
        rw [if_pos (show ([] : L) = [] from rfl)]
        exact hno hpo
      | cons c v =>
        simp only [List.length_cons] at l3
        have h58 : ((c.toNat : Int) = 58) ↔ c = 58 := u8i c 58 (by omega)
        rw [if_neg (show ¬ (c :: v = []) by simp), if_pos (by rw [mk_size]; simp only [List.length_cons]; omega), bt_head]
        by_cases c58 : c = 58
        · rw [if_neg (show ¬ ((c :: v).head? ≠ some 58) by simp [c58]), List.tail_cons] at hpo
          rw [if_pos (h58.2 c58), if_pos (by rw [mk_size]; simp only [List.length_cons]; omega), ext1]
          have lt := trim_len v
          rw [rtrimF v (k + 1) (by omega) (by omega)]
          simp only [Option.bind_some]
          rw [rfvalF (trim v) (k + 1) (by omega) (by omega)]
          simp only [Option.bind_some]
          by_cases hfv : fval (trim v) = true
          case neg =>
            have hfv2 : fval (trim v) = false := by simpa using hfv
            rw [if_neg hfv] at hpo
            rw [hfv2]
            exact hno hpo
          case pos =>
            rw [if_pos hfv] at hpo
            rw [broadsheetref18_Parse.j2, if_neg (show ¬ (!fval (trim v)) = true by rw [hfv]; decide), rlowF n k (by omega) (by omega)]
            simp only [Option.bind_some]
            rw [if_pos (by rw [mk_size]; simp only [List.length_cons]; omega), ext1, rtrimF v k (by omega) (by omega)]
            simp only [Option.bind_some]
            rw [if_pos (by rw [pairsB_len]; omega), hpo]
            have := ih f k more (acc ++ [(low n, trim v)]) (by omega) (by omega) (by omega) (by omega) (by simp only [List.length_append, List.length_singleton]; omega)
            rw [pairsB_app] at this
            exact this
        · rw [if_pos (show (c :: v).head? ≠ some 58 by simpa using c58)] at hpo
          rw [if_neg (fun h => c58 (h58.1 h))]
          exact hno hpo
theorem rparseF (s : L) (k : Nat) (hs : s.length ≤ 100000000000) (hk : 6 * s.length + 20 ≤ k) : broadsheetref18_Parse.f k (mk s) = some (fldB (fields s)) := by
  unfold broadsheetref18_Parse.f
  exact rparse_l0 s hs s.length (s.length + 1) k s [] (Nat.le_refl _) (by omega) hk (Nat.le_refl _) (by simp)
end Go.Proofs.YteonhdfjfjpbjaaGreatDoor.Sp

/- SpB -/
namespace Go.Proofs.YteonhdfjfjpbjaaGreatDoor.Sp
open Go
set_option linter.unusedVariables false
set_option linter.unusedSimpArgs false

/-! ### Digits to the base 16 -/
theorem hexC_all : ∀ a : Fin 16, hexV (hexC a.val) = some a.val ∧ hexC a.val ≠ 13 ∧ hexC a.val ≠ 10 := by decide +kernel
theorem hexC_v (n : Nat) (h : n < 16) : hexV (hexC n) = some n := (hexC_all ⟨n, h⟩).1
theorem hexC_ne (n : Nat) (h : n < 16) : hexC n ≠ 13 := (hexC_all ⟨n, h⟩).2.1
theorem hexD_lt {n : Nat} (h : n < 16) : hexD n = [hexC n] := by rw [hexD, dif_pos h]
theorem hexD_ge {n : Nat} (h : ¬ n < 16) : hexD n = hexD (n / 16) ++ [hexC (n % 16)] := by rw [hexD, dif_neg h]
theorem hexD_all (n : Nat) : ∀ c ∈ hexD n, hexB c = true ∧ c ≠ 13 := by
  induction n using Nat.strongRecOn with
  | _ n ih =>
    intro c hc
    by_cases h : n < 16
    · rw [hexD_lt h] at hc
      obtain rfl := List.mem_singleton.1 hc
      exact ⟨by unfold hexB; rw [hexC_v n h]; rfl, hexC_ne n h⟩
    · rw [hexD_ge h] at hc
      rcases List.mem_append.1 hc with hc | hc
      · exact ih (n / 16) (by omega) c hc
      · obtain rfl := List.mem_singleton.1 hc
        exact ⟨by unfold hexB; rw [hexC_v _ (by omega)]; rfl, hexC_ne _ (by omega)⟩
theorem hexD_ne (n : Nat) : hexD n ≠ [] := by
  by_cases h : n < 16
  · rw [hexD_lt h]; simp
  · rw [hexD_ge h]; simp
theorem hexN_app (a b : L) : hexN (a ++ b) = b.foldl (fun n c => n * 16 + (hexV c).getD 0) (hexN a) := by unfold hexN; rw [List.foldl_append]
theorem hexN_D (n : Nat) : hexN (hexD n) = n := by
  induction n using Nat.strongRecOn with
  | _ n ih =>
    by_cases h : n < 16
    · rw [hexD_lt h]
      simp [hexN, hexC_v n h]
    · rw [hexD_ge h, hexN_app, ih (n / 16) (by omega)]
      simp [hexC_v (n % 16) (by omega)]
      omega
theorem hexD_len (j : Nat) : ∀ n, n < 16 ^ (j + 1) → (hexD n).length ≤ j + 1 := by
  induction j with
  | zero =>
    intro n h
    rw [hexD_lt (by omega)]
    simp
  | succ j ih =>
    intro n h
    by_cases h2 : n < 16
    · rw [hexD_lt h2]; simp
    · rw [hexD_ge h2]
      have := ih (n / 16) (by rw [Nat.pow_succ] at h; omega)
      simp only [List.length_append, List.length_singleton]
      omega
theorem takeWhile_all {p : UInt8 → Bool} : ∀ {l : L}, (∀ c ∈ l, p c = true) → l.takeWhile p = l ∧ l.dropWhile p = []
  | [], _ => ⟨rfl, rfl⟩
  | c :: r, h => by
    have hc := h c (by simp)
    obtain ⟨h1, h2⟩ := takeWhile_all (l := r) (fun x hx => h x (by simp [hx]))
    exact ⟨by rw [List.takeWhile_cons_of_pos hc, h1], by rw [List.dropWhile_cons_of_pos hc, h2]⟩
theorem pars_nil : pars [] = some [] := by simp [pars, params, skip]
theorem csize_D (n : Nat) (h : n ≤ 100000) : csize (hexD n) = some n := by
  obtain ⟨h1, h2⟩ := takeWhile_all (p := hexB) (l := hexD n) (fun c hc => (hexD_all n c hc).1)
  have hl := hexD_len 7 n (by omega)
  unfold csize
  rw [h1, h2, pars_nil, if_neg (by simp [hexD_ne]; omega), hexN_D]

/-! ### What is told is read -/
theorem line_hex (n : Nat) (b : L) : line (hexD n ++ 13 :: 10 :: b) = some (hexD n, b) := by
  have h13 : 13 ∉ hexD n := fun h => (hexD_all n 13 h).2 rfl
  refine line_app _ _ (fun x y e => h13 (by rw [e]; simp)) (fun e => h13 (List.mem_of_getLast? e))
theorem line_crlf (b : L) : line (13 :: 10 :: b) = some ([], b) := by simp [line]
theorem fields_crlf (b : L) : fields (13 :: 10 :: b) = ([], b, 0) := by
  unfold fields
  rw [fparse, line_crlf]
  simp
  omega
theorem csize_0 : csize [48] = some 0 := by
  have h : hexD 0 = [48] := by rw [hexD_lt (by omega)]; rfl
  rw [← h]
  exact csize_D 0 (by omega)
theorem decode_end (f : Nat) (b acc : L) : decode (f + 1) (48 :: 13 :: 10 :: 13 :: 10 :: b) acc = (acc, b, 0) := by
  have e : line (48 :: 13 :: 10 :: 13 :: 10 :: b) = some ([48], 13 :: 10 :: b) := by simp [line]
  have c : csize [48] = some 0 := csize_0
  rw [decode, e]
  simp only [c, fields_crlf]
  simp
theorem decode_enc (n : Nat) (hn : 1 ≤ n) (b : L) : ∀ (d f g : Nat) (s acc : L), s.length ≤ d → d < f → d < g → s.length + acc.length ≤ 100000 → decode f (encode g s n ++ b) acc = (acc ++ s, b, 0) := by
  intro d
  induction d with
  | zero =>
    intro f g s acc hs hf hg hb
    obtain ⟨f, rfl⟩ : ∃ f', f = f' + 1 := ⟨f - 1, by omega⟩
    obtain ⟨g, rfl⟩ : ∃ g', g = g' + 1 := ⟨g - 1, by omega⟩
    obtain rfl : s = [] := List.eq_nil_of_length_eq_zero (by omega)
    rw [encode, if_pos rfl, List.append_nil]
    exact decode_end f b acc
  | succ d ih =>
    intro f g s acc hs hf hg hb
    obtain ⟨f, rfl⟩ : ∃ f', f = f' + 1 := ⟨f - 1, by omega⟩
    obtain ⟨g, rfl⟩ : ∃ g', g = g' + 1 := ⟨g - 1, by omega⟩
    by_cases h0 : s = []
    · subst h0
      rw [encode, if_pos rfl, List.append_nil]
      exact decode_end f b acc
    · have hp : 0 < s.length := List.length_pos_iff.2 h0
      rw [encode, if_neg h0]
      obtain ⟨m, hm⟩ : ∃ m, m = min n s.length := ⟨_, rfl⟩
      have hm1 : 1 ≤ m := by omega
      have et : s.take n = s.take m := by rw [hm]; exact (List.take_eq_take_min).trans (by rfl)
      have ed : s.drop n = s.drop m := by
        by_cases h : n ≤ s.length
        · rw [show m = n by omega]
        · rw [List.drop_eq_nil_of_le (by omega), List.drop_eq_nil_of_le (by omega)]
      rw [← hm, et, ed]
      have e1 : hexD m ++ [13, 10] ++ s.take m ++ [13, 10] ++ encode g (s.drop m) n ++ b = hexD m ++ 13 :: 10 :: (s.take m ++ (13 :: 10 :: (encode g (s.drop m) n ++ b))) := by simp
      have hl : (s.take m).length = m := by rw [List.length_take]; omega
      rw [e1, decode, line_hex]
      simp only [csize_D m (by omega)]
      rw [if_neg (by omega), if_neg (by omega), if_neg (by rw [List.length_append]; omega)]
      have d1 : (s.take m ++ (13 :: 10 :: (encode g (s.drop m) n ++ b))).drop m = 13 :: 10 :: (encode g (s.drop m) n ++ b) := by
        rw [List.drop_append_of_le_length (by omega), List.drop_eq_nil_of_le (by omega)]; rfl
      have d2 : (s.take m ++ (13 :: 10 :: (encode g (s.drop m) n ++ b))).drop (m + 2) = encode g (s.drop m) n ++ b := by
        rw [← List.drop_drop, d1]; rfl
      have d3 : (s.take m ++ (13 :: 10 :: (encode g (s.drop m) n ++ b))).take m = s.take m := by
        rw [List.take_append_of_le_length (by omega), List.take_of_length_le (by omega)]
      rw [d1, d2, d3, if_neg (by simp)]
      rw [ih f g (s.drop m) (acc ++ s.take m) (by rw [List.length_drop]; omega) (by omega) (by omega) (by rw [List.length_drop, List.length_append, hl]; omega)]
      rw [List.append_assoc, List.take_append_drop]
theorem enc_back (s b : L) (n : Nat) (hn : 1 ≤ n) (hs : s.length ≤ 100000) (f : Nat) (hf : s.length < f) : decode f (enc s n ++ b) [] = (s, b, 0) := by
  unfold enc
  have := decode_enc n hn b s.length f (s.length + 1) s [] (Nat.le_refl _) hf (by omega) (by simpa using hs)
  simpa using this

/-! ### Of a beginning of it nothing is -/
theorem line_short (n k : Nat) (h : k < (hexD n).length + 2) (b : L) : line ((hexD n ++ 13 :: 10 :: b).take k) = none := by
  have h13 : 13 ∉ hexD n := fun h => (hexD_all n 13 h).2 rfl
  generalize hexD n = a at *
  induction a generalizing k with
  | nil =>
    match k, h with
    | 0, _ => rfl
    | 1, _ => rfl
  | cons c a ih =>
    cases k with
    | zero => rfl
    | succ k =>
      rw [List.cons_append, List.take_succ_cons, line, if_neg (by rintro ⟨rfl, _⟩; simp at h13), ih k (by simp at h; omega) (fun e => h13 (by simp [e]))]
      rfl
theorem decode_cut_end (f k : Nat) (hk : k < 5) (acc : L) : decode (f + 1) (([48, 13, 10, 13, 10] : L).take k) acc = ([], [], 190) := by
  have c : csize [48] = some 0 := csize_0
  match k, hk with
  | 0, _ => rfl
  | 1, _ => rfl
  | 2, _ => rfl
  | 3, _ =>
    have e : line (([48, 13, 10, 13, 10] : L).take 3) = some ([48], []) := by simp [line]
    rw [decode, e]
    simp only [c]
    rfl
  | 4, _ =>
    have e : line (([48, 13, 10, 13, 10] : L).take 4) = some ([48], [13]) := by simp [line]
    rw [decode, e]
    simp only [c]
    rfl
theorem decode_cut (n : Nat) (hn : 1 ≤ n) : ∀ (d f g k : Nat) (s acc : L), s.length ≤ d → d < f → d < g → s.length + acc.length ≤ 100000 → k < (encode g s n).length → decode f ((encode g s n).take k) acc = ([], [], 190) := by
  intro d
  induction d with
  | zero =>
    intro f g k s acc hs hf hg hb hk
    obtain ⟨f, rfl⟩ : ∃ f', f = f' + 1 := ⟨f - 1, by omega⟩
    obtain ⟨g, rfl⟩ : ∃ g', g = g' + 1 := ⟨g - 1, by omega⟩
    obtain rfl : s = [] := List.eq_nil_of_length_eq_zero (by omega)
    rw [encode, if_pos rfl] at hk ⊢
    exact decode_cut_end f k hk acc
  | succ d ih =>
    intro f g k s acc hs hf hg hb hk
    obtain ⟨f, rfl⟩ : ∃ f', f = f' + 1 := ⟨f - 1, by omega⟩
    obtain ⟨g, rfl⟩ : ∃ g', g = g' + 1 := ⟨g - 1, by omega⟩
    by_cases h0 : s = []
    · subst h0
      rw [encode, if_pos rfl] at hk ⊢
      exact decode_cut_end f k hk acc
    · have hp : 0 < s.length := List.length_pos_iff.2 h0
      rw [encode, if_neg h0] at hk ⊢
      obtain ⟨m, hm⟩ : ∃ m, m = min n s.length := ⟨_, rfl⟩
      have hm1 : 1 ≤ m := by omega
      have et : s.take n = s.take m := by rw [hm]; exact (List.take_eq_take_min).trans (by rfl)
      have ed : s.drop n = s.drop m := by
        by_cases h : n ≤ s.length
        · rw [show m = n by omega]
        · rw [List.drop_eq_nil_of_le (by omega), List.drop_eq_nil_of_le (by omega)]
      rw [← hm, et, ed] at hk ⊢
      have hl : (s.take m).length = m := by rw [List.length_take]; omega
      have e1 : hexD m ++ [13, 10] ++ s.take m ++ [13, 10] ++ encode g (s.drop m) n = hexD m ++ 13 :: 10 :: (s.take m ++ (13 :: 10 :: encode g (s.drop m) n)) := by simp
      rw [e1] at hk ⊢
      by_cases h1 : k < (hexD m).length + 2
      · rw [decode, line_short m k h1]
      · obtain ⟨j, rfl⟩ : ∃ j, k = (hexD m).length + 2 + j := ⟨k - ((hexD m).length + 2), by omega⟩
        have e2 : (hexD m ++ 13 :: 10 :: (s.take m ++ (13 :: 10 :: encode g (s.drop m) n))).take ((hexD m).length + 2 + j) = hexD m ++ 13 :: 10 :: (s.take m ++ (13 :: 10 :: encode g (s.drop m) n)).take j := by
          rw [show (hexD m).length + 2 + j = (hexD m).length + (2 + j) by omega, List.take_length_add_append]
          rw [show 2 + j = j + 1 + 1 by omega]
          rfl
        rw [e2, decode, line_hex]
        simp only [csize_D m (by omega)]
        rw [if_neg (by omega), if_neg (by omega)]
        simp only [List.length_append, List.length_cons, List.length_nil, hl] at hk
        by_cases h2 : j < m + 2
        · by_cases h3 : j < m
          · rw [if_pos (by rw [List.length_take, List.length_append, hl]; simp only [List.length_cons]; omega)]
          · rw [if_neg (by rw [List.length_take, List.length_append, hl]; simp only [List.length_cons]; omega), if_pos]
            intro e
            have := congrArg List.length e
            simp only [List.length_take, List.length_drop, List.length_append, List.length_cons, List.length_nil, hl] at this
            omega
        · obtain ⟨i, rfl⟩ : ∃ i, j = m + 2 + i := ⟨j - (m + 2), by omega⟩
          have e3 : (s.take m ++ (13 :: 10 :: encode g (s.drop m) n)).take (m + 2 + i) = s.take m ++ 13 :: 10 :: (encode g (s.drop m) n).take i := by
            rw [show m + 2 + i = (s.take m).length + (2 + i) by omega, List.take_length_add_append, show 2 + i = i + 1 + 1 by omega]
            rfl
          rw [e3, if_neg (by rw [List.length_append]; omega)]
          have d1 : (s.take m ++ (13 :: 10 :: (encode g (s.drop m) n).take i)).drop m = 13 :: 10 :: (encode g (s.drop m) n).take i := by
            rw [List.drop_append_of_le_length (by omega), List.drop_eq_nil_of_le (by omega)]; rfl
          have d2 : (s.take m ++ (13 :: 10 :: (encode g (s.drop m) n).take i)).drop (m + 2) = (encode g (s.drop m) n).take i := by
            rw [← List.drop_drop, d1]; rfl
          have d3 : (s.take m ++ (13 :: 10 :: (encode g (s.drop m) n).take i)).take m = s.take m := by
            rw [List.take_append_of_le_length (by omega), List.take_of_length_le (by omega)]
          rw [d1, d2, d3, if_neg (by simp)]
          exact ih f g i (s.drop m) (acc ++ s.take m) (by rw [List.length_drop]; omega) (by omega) (by omega) (by rw [List.length_drop, List.length_append, hl]; omega) (by omega)
theorem enc_cut (s : L) (n k : Nat) (hn : 1 ≤ n) (hs : s.length ≤ 100000) (f : Nat) (hf : s.length < f) (hk : k < (enc s n).length) : decode f ((enc s n).take k) [] = ([], [], 190) :=
  decode_cut n hn s.length f (s.length + 1) k s [] (Nat.le_refl _) hf (by omega) (by simpa using hs) hk
end Go.Proofs.YteonhdfjfjpbjaaGreatDoor.Sp

/- SpE -/
namespace Go.Proofs.YteonhdfjfjpbjaaGreatDoor.Sp
open Go Go.RowKit Go.Proofs.YteonhdfjfjpbjaaGreatDoorW.PrintWords Go.Proofs.YteonhdfjfjpbjaaGreatDoorW.PrintLast Go.Proofs.YteonhdfjfjpbjaaGreatDoor.O Go.Proofs.YteonhdfjfjpbjaaGreatDoor.P
set_option linter.unusedVariables false
set_option linter.unusedSimpArgs false

/-! ### A size -/
def hexS : L := [48, 49, 50, 51, 52, 53, 54, 55, 56, 57, 97, 98, 99, 100, 101, 102, 65, 66, 67, 68, 69, 70]
theorem hexS_all : ∀ a : Fin 256, hexS.contains (UInt8.ofNat a.val) = hexB (UInt8.ofNat a.val) ∧ isHex ((UInt8.ofNat a.val).toNat : Int) = hexB (UInt8.ofNat a.val) ∧ (hexB (UInt8.ofNat a.val) = true → hexI ((UInt8.ofNat a.val).toNat : Int) = (((hexV (UInt8.ofNat a.val)).getD 0 : Nat) : Int)) ∧ (hexV (UInt8.ofNat a.val)).getD 0 < 16 := by decide +kernel
theorem hex_eq : (hexS.contains · : UInt8 → Bool) = hexB := by
  funext c
  obtain ⟨a, rfl⟩ := u8_fin c
  exact (hexS_all a).1
theorem isHex_b (c : UInt8) : isHex (c.toNat : Int) = hexB c := by
  obtain ⟨a, rfl⟩ := u8_fin c
  exact (hexS_all a).2.1
theorem hexI_b (c : UInt8) (h : hexB c = true) : hexI (c.toNat : Int) = (((hexV c).getD 0 : Nat) : Int) := by
  obtain ⟨a, rfl⟩ := u8_fin c
  exact (hexS_all a).2.2.1 h
theorem hexV_lt (c : UInt8) : (hexV c).getD 0 < 16 := by
  obtain ⟨a, rfl⟩ := u8_fin c
  exact (hexS_all a).2.2.2
theorem trimHexF (l : L) : strings_TrimLeft.f (mk l) (mk hexS) = some (mk (l.dropWhile hexB)) := by
  unfold strings_TrimLeft.f
  rw [if_pos ⟨by decide, by decide⟩, mk_data, mk_data]
  unfold Lib.trimLeftS
  rw [hex_eq]
  rfl
theorem hexN_snoc (a : L) (c : UInt8) : hexN (a ++ [c]) = hexN a * 16 + (hexV c).getD 0 := by rw [hexN_app]; rfl
theorem hexN_lt (a : L) : hexN a < 16 ^ a.length := by
  suffices h : ∀ (n : Nat) (a : L), a.length = n → hexN a < 16 ^ n from h _ a rfl
  intro n
  induction n with
  | zero =>
    intro a ha
    rw [List.eq_nil_of_length_eq_zero ha]
    decide
  | succ n ih =>
    intro a ha
    have hne : a ≠ [] := by rintro rfl; simp at ha
    rw [← List.dropLast_concat_getLast hne, hexN_snoc, Nat.pow_succ]
    have h1 := ih a.dropLast (by rw [List.length_dropLast]; omega)
    have h2 := hexV_lt (a.getLast hne)
    omega
theorem puR_eq (s : L) (hs : s.length ≤ 8) (hx : ∀ c ∈ s, hexB c = true) : ∀ (f k : Nat), k + f = s.length → puR (mk s) f k ((hexN (s.take k) : Nat) : Int) = (((hexN s : Nat) : Int), none) := by
  intro f
  induction f with
  | zero =>
    intro k hk
    rw [puR, List.take_of_length_le (by omega)]
  | succ f ih =>
    intro k hk
    obtain ⟨b, e1, e2⟩ := mk_bt s k (by omega)
    have hb : b ∈ s := List.mem_of_mem_drop (by rw [e1]; simp)
    have hlt := hexN_lt (s.take k)
    have hk2 : (s.take k).length = k := by rw [List.length_take]; omega
    have h16 : 16 ^ k ≤ 16 ^ 8 := Nat.pow_le_pow_right (by decide) (by omega)
    rw [hk2] at hlt
    have hpow : (16 : Nat) ^ 8 = 4294967296 := by decide
    have et : s.take (k + 1) = s.take k ++ [b] := by
      have hd : s = s.take k ++ (b :: s.drop (k + 1)) := by rw [← e1, List.take_append_drop]
      have : (s.take k ++ (b :: s.drop (k + 1))).take (k + 1) = s.take k ++ [b] := by
        rw [List.take_append, hk2]
        simp
        rw [List.take_of_length_le (by omega)]
      rw [← hd] at this
      exact this
    rw [puR, if_neg (by omega), e2, hexI_b b (hx b hb)]
    have e3 : ((hexN (s.take k) : Nat) : Int) * 16 + (((hexV b).getD 0 : Nat) : Int) = ((hexN (s.take (k + 1)) : Nat) : Int) := by rw [et, hexN_snoc]; omega
    rw [e3]
    exact ih (k + 1) (by omega)
theorem puS_eq (s : L) (hs : s.length ≤ 8) (hx : ∀ c ∈ s, hexB c = true) (hne : s ≠ []) : puS (mk s) = (((hexN s : Nat) : Int), none) := by
  unfold puS
  rw [mk_size, if_neg (fun h => hne (List.eq_nil_of_length_eq_zero h))]
  have := puR_eq s hs hx s.length 0 (by omega)
  simpa [hexN] using this
theorem puF (s : L) (hs : s.length ≤ 100000000000) (hx : ∀ c ∈ s, hexB c = true) : strconv_ParseUint.f (mk s) 16 64 = some (puS (mk s)) := by
  have hh : allHex (mk s) = true := by
    unfold allHex
    rw [List.all_eq_true]
    intro j hj
    rw [List.mem_range, mk_size] at hj
    obtain ⟨b, e1, e2⟩ := mk_bt s j hj
    rw [e2, isHex_b]
    exact hx b (List.mem_of_mem_drop (by rw [e1]; simp))
  unfold strconv_ParseUint.f
  rw [if_pos ⟨rfl, rfl, hh, by rw [mk_size]; omega⟩]
theorem sizeF (l : L) (k : Nat) (hl : l.length ≤ 10000000000) (hk : 3 * l.length + 10 ≤ k) : ∃ n, chunk_size.f k (mk l) = some (n, (csize l).isSome) ∧ (∀ m, csize l = some m → n = (m : Int)) := by
  have hsum : (l.takeWhile hexB).length + (l.dropWhile hexB).length = l.length := by
    have := congrArg List.length (List.takeWhile_append_dropWhile (p := hexB) (l := l))
    rwa [List.length_append] at this
  have hx : ∀ c ∈ l.takeWhile hexB, hexB c = true := fun c hc => mem_tw hc
  have e0 : l.take (l.takeWhile hexB).length = l.takeWhile hexB := take_tw hexB l
  have e1 : l.drop (l.takeWhile hexB).length = l.dropWhile hexB := drop_tw hexB l
  have htw := puF (l.takeWhile hexB) (by omega) hx
  obtain ⟨q, hq, hp⟩ := paramsF (l.dropWhile hexB) k (by omega) (by omega)
  have hok := parsIs_ok hp
  unfold chunk_size.f
  rw [show (⟨#[48, 49, 50, 51, 52, 53, 54, 55, 56, 57, 97, 98, 99, 100, 101, 102, 65, 66, 67, 68, 69, 70]⟩ : ByteArray) = mk hexS from rfl, trimHexF]
  simp only [Option.bind_some, mk_size]
  have hw : wrap64 ((l.length : Int) - ((l.dropWhile hexB).length : Int)) = (((l.takeWhile hexB).length : Nat) : Int) := by rw [wrap_id (by omega) (by omega)]; omega
  rw [hw, if_pos (by omega), if_pos (by omega)]
  simp only [Int.toNat_natCast, ext_to, e0, mk_size]
  rw [if_pos (by omega), if_pos (by omega)]
  have e2 : (mk l).extract (l.takeWhile hexB).length l.length = mk (l.dropWhile hexB) := by
    have := ext_from l (l.takeWhile hexB).length
    rw [mk_size, e1] at this
    exact this
  rw [e2, hq]
  simp only [Option.bind_some]
  rw [htw]
  simp only [Option.bind_some]
  simp only at hok
  rw [hok]
  by_cases c1 : l.takeWhile hexB = []
  · have hc : csize l = none := by unfold csize; rw [if_pos (.inl c1)]
    have hz : puS (mk []) = (0, some 0) := by unfold puS; rw [if_pos (by rw [mk_size]; rfl)]
    rw [hc, c1, hz]
    simp only [Option.isNone_some, Bool.false_eq_true, if_false]
    cases (pars (l.dropWhile hexB)).isSome <;> exact ⟨_, rfl, by simp⟩
  by_cases c2 : 8 < (l.takeWhile hexB).length
  · have hc : csize l = none := by unfold csize; rw [if_pos (.inr (.inl c2))]
    rw [hc, decide_eq_false (by omega)]
    refine ⟨wrap64 (puS (mk (l.takeWhile hexB))).1, ?_, by simp⟩
    cases (pars (l.dropWhile hexB)).isSome <;> cases (puS (mk (l.takeWhile hexB))).2 <;> rfl
  rw [puS_eq _ (by omega) hx c1, decide_eq_true (by omega)]
  cases c3 : pars (l.dropWhile hexB) with
  | none =>
    have hc : csize l = none := by unfold csize; rw [if_pos (.inr (.inr c3))]
    rw [hc]
    exact ⟨_, rfl, by simp⟩
  | some ps =>
    have hc : csize l = some (hexN (l.takeWhile hexB)) := by unfold csize; rw [if_neg (by simp [c1, c2, c3])]
    have hlt := hexN_lt (l.takeWhile hexB)
    have h16 : 16 ^ (l.takeWhile hexB).length ≤ 16 ^ 8 := Nat.pow_le_pow_right (by decide) (by omega)
    have hpow : (16 : Nat) ^ 8 = 4294967296 := by decide
    refine ⟨((hexN (l.takeWhile hexB) : Nat) : Int), ?_, fun m hm => by rw [hc] at hm; obtain rfl := Option.some.inj hm; rfl⟩
    rw [hc]
    simp only [Option.isNone_none, Option.isSome_some, if_true]
    rw [wrap_id (by omega) (by omega)]

/-! ### A body read -/
def txt3 (r : L × L × Int) : ByteArray × ByteArray × Int := (mk r.1, mk r.2.1, r.2.2)
theorem fldF (s : L) (hs : s.length < 4294967281) : field_Parse.f (mk s) = some (fldB (fields s)) := by
  unfold field_Parse.f fieldsB
  rw [if_pos (by rw [mk_size]; exact hs), mk_data]
  rfl
theorem partF (s : L) (n had : Nat) (hs : s.length ≤ 100000000000) (hn : n ≤ 100000000000) (hh : had ≤ 100000) : chunk_part.f (mk s) n had = some (txt3 (if n + had > 100000 then ([], [], 2) else if s.length < n then ([], [], 190) else if (s.drop n).take 2 ≠ [13, 10] then ([], [], 190) else (s.take n, s.drop (n + 2), 0))) := by
  unfold chunk_part.f
  have hw : wrap64 (100000 - (had : Int)) = ((100000 - had : Nat) : Int) := by rw [wrap_id (by omega) (by omega)]; omega
  rw [hw, mk_size]
  by_cases h1 : n + had > 100000
  · rw [if_pos (by omega), if_pos h1]; rfl
  rw [if_neg (by omega), if_neg h1]
  by_cases h2 : s.length < n
  · rw [if_pos (by omega), if_pos h2]; rfl
  rw [if_neg (by omega), if_neg h2, if_pos (by omega), if_pos (by omega)]
  have e2 : (mk s).extract (((n : Nat) : Int)).toNat s.length = mk (s.drop n) := by
    have := ext_from s n
    rw [mk_size] at this
    exact this
  rw [e2, show (⟨#[13, 10]⟩ : ByteArray) = mk [13, 10] from rfl, cutPF]
  simp only [Option.bind_some, Int.toNat_natCast, ext_to]
  by_cases h3 : (s.drop n).take 2 = [13, 10]
  · have hp : hasP (s.drop n) [13, 10] = true := by unfold hasP; exact decide_eq_true h3
    rw [if_pos hp, if_neg (show ¬ ((s.drop n).take 2 ≠ [13, 10]) from fun h => h h3)]
    simp only [if_true, List.length_cons, List.length_nil, List.drop_drop]
    rfl
  · have hp : ¬ hasP (s.drop n) [13, 10] = true := by unfold hasP; intro h; exact h3 (of_decide_eq_true h)
    rw [if_neg hp, if_pos h3]
    rfl
theorem csize_lt {l : L} {n : Nat} (h : csize l = some n) : n ≤ 4294967296 := by
  unfold csize at h
  split at h
  · simp at h
  · rename_i hc
    obtain rfl := Option.some.inj h
    have hlt := hexN_lt (l.takeWhile hexB)
    have h8 : ¬ 8 < (l.takeWhile hexB).length := fun h => hc (.inr (.inl h))
    have h16 : 16 ^ (l.takeWhile hexB).length ≤ 16 ^ 8 := Nat.pow_le_pow_right (by decide) (by omega)
    have hpow : (16 : Nat) ^ 8 = 4294967296 := by decide
    omega
theorem line_cut (s : L) : (line s = none ∧ Lib.cut s [13, 10] = (s, [], false)) ∨ (∃ p, line s = some p ∧ Lib.cut s [13, 10] = (p.1, p.2, true)) := by
  cases e : line s with
  | none =>
    have hb : lineB (mk s) = none := by unfold lineB; rw [mk_data, e]; rfl
    have := cut_none (mk s) hb
    rw [mk_data] at this
    exact .inl ⟨rfl, this⟩
  | some p =>
    have hb : lineB (mk s) = some (mk p.1, mk p.2) := by unfold lineB; rw [mk_data, e]; rfl
    have := cut_some (mk s) (mk p.1) (mk p.2) hb
    rw [mk_data, mk_data, mk_data] at this
    exact .inr ⟨p, rfl, this⟩
theorem decode_l0 : ∀ (d f k : Nat) (s acc : L), s.length ≤ d → d < f → 5 * d + 30 ≤ k → s.length < 4294967281 → acc.length ≤ 100000 →
    chunk_Decode.l0 k (mk s) (mk acc) = some (txt3 (decode f s acc)) := by
  intro d
  induction d with
  | zero =>
    intro f k s acc hs hf hk hl ha
    obtain ⟨k, rfl⟩ : ∃ k', k = k' + 2 := ⟨k - 2, by omega⟩
    obtain ⟨f, rfl⟩ : ∃ f', f = f' + 1 := ⟨f - 1, by omega⟩
    obtain rfl : s = [] := List.eq_nil_of_length_eq_zero (by omega)
    have e : Lib.cut ([] : L) [13, 10] = ([], [], false) := by decide
    rw [chunk_Decode.l0, show (⟨#[13, 10]⟩ : ByteArray) = mk [13, 10] from rfl, cut_l, if_pos (by simp), e]
    simp only [Option.bind_some]
    obtain ⟨n, hn, _⟩ := sizeF [] (k + 1) (by simp) (by simp; omega)
    rw [hn]
    simp only [Option.bind_some]
    rw [if_neg (by decide), chunk_Decode.j1, if_pos rfl]
    rfl
  | succ d ih =>
    intro f k s acc hs hf hk hl ha
    obtain ⟨k, rfl⟩ : ∃ k', k = k' + 2 := ⟨k - 2, by omega⟩
    obtain ⟨f, rfl⟩ : ∃ f', f = f' + 1 := ⟨f - 1, by omega⟩
    rw [chunk_Decode.l0, show (⟨#[13, 10]⟩ : ByteArray) = mk [13, 10] from rfl, cut_l, if_pos hl, decode]
    rcases line_cut s with ⟨e1, e2⟩ | ⟨p, e1, e2⟩
    · rw [e1, e2]
      simp only [Option.bind_some]
      obtain ⟨n, hn, _⟩ := sizeF s (k + 1) (by omega) (by omega)
      rw [hn]
      simp only [Option.bind_some]
      rw [if_neg (by decide), chunk_Decode.j1, if_pos rfl]
      rfl
    · obtain ⟨l, more⟩ := p
      rw [e1, e2]
      have hll := congrArg List.length (line_len s _ e1)
      simp only [List.length_append, List.length_cons] at hll
      simp only [Option.bind_some]
      obtain ⟨n, hn, hm⟩ := sizeF l (k + 1) (by omega) (by omega)
      rw [hn]
      simp only [Option.bind_some, if_true]
      rw [chunk_Decode.j1]
      cases ec : csize l with
      | none =>
        rw [if_pos (by rfl)]
        rfl
      | some m =>
        have hnm := hm m ec
        subst hnm
        have hmb := csize_lt ec
        rw [if_neg (by simp)]
        simp only
        by_cases h0 : m = 0
        · rw [if_pos (by omega), if_pos h0, fldF more (by omega)]
          simp only [Option.bind_some]
          by_cases hz : (fields more).2.2 = 0
          · rw [if_pos (show (fldB (fields more)).2.2 = 0 from hz), if_pos hz]
            rfl
          · rw [if_neg (show ¬ (fldB (fields more)).2.2 = 0 from hz), if_neg hz]
            rfl
        · rw [if_neg (by omega), if_neg h0]
          have eL : Builder_Len.f (mk acc) = some (((acc.length : Nat) : Int), mk acc) := by unfold Builder_Len.f; rw [mk_size]
          rw [eL]
          simp only [Option.bind_some]
          rw [partF more m acc.length (by omega) (by omega) ha]
          simp only [Option.bind_some]
          by_cases h1 : m + acc.length > 100000
          · rw [if_pos h1, if_pos h1, if_neg (by decide)]
            rfl
          rw [if_neg h1, if_neg h1]
          by_cases h2 : more.length < m
          · rw [if_pos h2, if_pos h2, if_neg (by decide)]
            rfl
          rw [if_neg h2, if_neg h2]
          by_cases h3 : (more.drop m).take 2 ≠ [13, 10]
          · rw [if_pos h3, if_pos h3, if_neg (by decide)]
            rfl
          rw [if_neg h3, if_neg h3, if_pos (by rfl)]
          have htl : (more.take m).length = m := by rw [List.length_take]; omega
          have eW : Builder_WriteString.f (mk acc) (txt3 (more.take m, more.drop (m + 2), 0)).1 = some ((((more.take m).length : Nat) : Int), none, mk (acc ++ more.take m)) := by
            unfold Builder_WriteString.f txt3
            simp only [mk_size]
            rw [if_pos (by omega), mk_append]
          rw [eW]
          simp only [Option.bind_some]
          exact ih f k (more.drop (m + 2)) (acc ++ more.take m) (by rw [List.length_drop]; omega) (by omega) (by omega) (by rw [List.length_drop]; omega) (by rw [List.length_append, htl]; omega)
theorem decodeF (s : L) (k : Nat) (hs : s.length < 4294967281) (hk : 5 * s.length + 30 ≤ k) : chunk_Decode.f k (mk s) = some (txt3 (dec s)) :=
  decode_l0 s.length (s.length + 1) k s [] (Nat.le_refl _) (by omega) hk hs (by simp)

/-! ### A body told -/
theorem dgI_hexC (n : Nat) (h : n < 16) : UInt8.ofNat (dgI n).toNat = hexC n := by
  unfold dgI hexC
  by_cases h1 : n < 10
  · rw [if_pos (by omega), if_pos h1]
    congr 1
  · rw [if_neg (by omega), if_neg h1]
    congr 1
theorem hxL_eq : ∀ (f u : Nat) (t : List Int), u < 16 ^ f → 1 ≤ f → strOfNums (hxL f u t) = mk (hexD u) ++ strOfNums t := by
  intro f
  induction f with
  | zero => intro u t hu hf; omega
  | succ f ih =>
    intro u t hu hf
    rw [hxL]
    have hone : ∀ (n : Nat) (t : List Int), n < 16 → strOfNums (dgI n :: t) = mk [hexC n] ++ strOfNums t := fun n t hn => by
      apply ba_ext
      rw [ByteArray.data_append, Array.toList_append, strOfNums_data, mk_data, strOfNums_data, List.map_cons, dgI_hexC n hn]
      rfl
    by_cases h : u < 16
    · rw [if_neg (by omega), hone u t h, hexD_lt h]
    · rw [if_pos (by omega), show ((u : Int) / 16) = ((u / 16 : Nat) : Int) by omega, show ((u : Int) % 16) = ((u % 16 : Nat) : Int) by omega]
      have hf1 : 1 ≤ f := by
        rcases Nat.eq_zero_or_pos f with rfl | h0
        · simp at hu; omega
        · exact h0
      rw [ih (u / 16) _ (by rw [Nat.pow_succ] at hu; omega) hf1, hone _ t (by omega), hexD_ge h]
      apply ba_ext
      simp [mk_data]
theorem fmtF (n : Nat) (h : n ≤ 4294967296) : strconv_FormatInt.f n 16 = some (mk (hexD n)) := by
  unfold strconv_FormatInt.f
  rw [if_pos ⟨rfl, by omega, by omega⟩, hxL_eq 16 n [] (by omega) (by omega)]
  congr 1
  apply ba_ext
  simp [mk_data, strOfNums]
theorem mn_nat (n : Int) (s : L) (h : 1 ≤ n) : mn n ((s.length : Nat) : Int) = ((min n.toNat s.length : Nat) : Int) := by
  unfold mn
  omega
theorem enc_l0 (n : Int) (hn : 1 ≤ n) : ∀ (d f k : Nat) (s acc : L), s.length ≤ d → d < f → d < k → s.length ≤ 4294967296 → acc.length + 20 * s.length ≤ 1000000000000 →
    chunk_Encode.l0 k (mk s) n (mk acc) = some (mk (acc ++ encode f s n.toNat), 0) := by
  intro d
  induction d with
  | zero =>
    intro f k s acc hs hf hk hl ha
    obtain ⟨k, rfl⟩ : ∃ k', k = k' + 1 := ⟨k - 1, by omega⟩
    obtain ⟨f, rfl⟩ : ∃ f', f = f' + 1 := ⟨f - 1, by omega⟩
    obtain rfl : s = [] := List.eq_nil_of_length_eq_zero (by omega)
    rw [chunk_Encode.l0, if_pos (by rw [tl_mk]), encode, if_pos rfl]
    simp only [Builder_String.f, Option.bind_some, show (⟨#[48]⟩ : ByteArray) = mk [48] from rfl, show (⟨#[13, 10]⟩ : ByteArray) = mk [13, 10] from rfl, mk_append, mk_size, List.length_append, List.length_cons, List.length_nil]
    rw [if_pos (by omega), if_pos (by omega), if_pos (by omega)]
    simp
  | succ d ih =>
    intro f k s acc hs hf hk hl ha
    obtain ⟨k, rfl⟩ : ∃ k', k = k' + 1 := ⟨k - 1, by omega⟩
    obtain ⟨f, rfl⟩ : ∃ f', f = f' + 1 := ⟨f - 1, by omega⟩
    rw [chunk_Encode.l0, encode, tl_mk]
    by_cases h0 : s = []
    · rw [if_pos h0, if_pos h0]
      simp only [Builder_String.f, Option.bind_some, show (⟨#[48]⟩ : ByteArray) = mk [48] from rfl, show (⟨#[13, 10]⟩ : ByteArray) = mk [13, 10] from rfl, mk_append, mk_size, List.length_append, List.length_cons, List.length_nil]
      rw [if_pos (by omega), if_pos (by omega), if_pos (by omega)]
      simp
    · have hp : 0 < s.length := List.length_pos_iff.2 h0
      rw [if_neg h0, if_neg h0, mk_size, mn_nat n s hn]
      obtain ⟨m, hm⟩ : ∃ m, m = min n.toNat s.length := ⟨_, rfl⟩
      rw [← hm, fmtF m (by omega)]
      have hdl := hexD_len 8 m (by omega)
      have et : s.take n.toNat = s.take m := by rw [hm]; exact (List.take_eq_take_min).trans (by rfl)
      have ed : s.drop n.toNat = s.drop m := by
        by_cases h : n.toNat ≤ s.length
        · rw [show m = n.toNat by omega]
        · rw [List.drop_eq_nil_of_le (by omega), List.drop_eq_nil_of_le (by omega)]
      have htl : (s.take m).length = m := by rw [List.length_take]; omega
      have e2 : (mk s).extract m s.length = mk (s.drop m) := by
        have := ext_from s m
        rw [mk_size] at this
        exact this
      simp only [Option.bind_some, Int.toNat_natCast, show (⟨#[13, 10]⟩ : ByteArray) = mk [13, 10] from rfl, mk_append, mk_size, ext_to, List.length_append, List.length_cons, List.length_nil, htl]
      rw [if_pos (by omega), if_pos (by omega), if_pos (by omega), if_pos (by omega), if_pos (by omega)]
      rw [Builder_WriteString.f, if_pos (by rw [mk_size, mk_size]; simp only [List.length_append, List.length_cons, List.length_nil, htl]; omega)]
      simp only [Option.bind_some]
      rw [e2, mk_append, ih f k (s.drop m) _ (by rw [List.length_drop]; omega) (by omega) (by omega) (by rw [List.length_drop]; omega) (by simp only [List.length_append, List.length_cons, List.length_nil, htl, List.length_drop]; omega), et, ed]
      congr 2
      simp
/-- What is told of a body, and the error. -/
def encR (s : L) (n : Int) : L × Int := if n < 1 then ([], 1) else if s.length > 100000 then ([], 2) else (enc s n.toNat, 0)
theorem encodeF (s : L) (n : Int) (k : Nat) (hk : s.length < k) : chunk_Encode.f k (mk s) n = some (mk (encR s n).1, (encR s n).2) := by
  unfold chunk_Encode.f encR
  rw [mk_size]
  by_cases h1 : n < 1
  · rw [if_pos h1, if_pos h1]; rfl
  rw [if_neg h1, if_neg h1]
  by_cases h2 : s.length > 100000
  · rw [if_pos (by omega), if_pos h2]; rfl
  rw [if_neg (by omega), if_neg h2]
  have := enc_l0 n (by omega) s.length (s.length + 1) k s [] (Nat.le_refl _) (by omega) hk (by omega) (by simp; omega)
  rw [List.nil_append] at this
  exact this
end Go.Proofs.YteonhdfjfjpbjaaGreatDoor.Sp

/- SpG -/
namespace Go.Proofs.YteonhdfjfjpbjaaGreatDoor.Sp
open Go Go.RowKit Go.Proofs.YteonhdfjfjpbjaaGreatDoorW.PrintWords Go.Proofs.YteonhdfjfjpbjaaGreatDoorW.PrintLast Go.Proofs.YteonhdfjfjpbjaaGreatDoor.O Go.Proofs.YteonhdfjfjpbjaaGreatDoor.P
set_option linter.unusedVariables false
set_option linter.unusedSimpArgs false

def hexR (c : UInt8) : Int := match hexV c with
  | some n => n
  | none => -1
theorem rhex_all : ∀ a : Fin 256, broadsheetref19_hex.f 2 ((UInt8.ofNat a.val).toNat : Int) = some (hexR (UInt8.ofNat a.val)) := by decide +kernel
theorem rhexF (c : UInt8) (k : Nat) (hk : 2 ≤ k) : broadsheetref19_hex.f k (c.toNat : Int) = some (hexR c) := by
  obtain ⟨k, rfl⟩ : ∃ k', k = k' + 2 := ⟨k - 2, by omega⟩
  obtain ⟨a, rfl⟩ := u8_fin c
  rw [← rhex_all a]
  rfl
theorem hexR_ge (c : UInt8) : decide (hexR c ≥ 0) = hexB c := by
  unfold hexR hexB
  cases hexV c with
  | none => rfl
  | some n => simp
/-- The size at a line's head. -/
def rsz (l : L) : Int × L := if l.takeWhile hexB = [] ∨ 8 < (l.takeWhile hexB).length then (-1, []) else (((hexN (l.takeWhile hexB) : Nat) : Int), l.dropWhile hexB)
theorem rsize_l0 (l : L) (hl : l.length ≤ 100000000000) : ∀ (d k i : Nat), i + d = l.length → 2 * d + 5 ≤ k → i ≤ 8 → (∀ c ∈ l.take i, hexB c = true) →
    broadsheetref19_size.l0 k (mk l) ((hexN (l.take i) : Nat) : Int) i = some ((rsz l).1, mk (rsz l).2) := by
  intro d
  induction d with
  | zero =>
    intro k i hi hk h8 hx
    obtain ⟨k, rfl⟩ : ∃ k', k = k' + 2 := ⟨k - 2, by omega⟩
    rw [broadsheetref19_size.l0, if_neg (by rw [mk_size]; omega), broadsheetref19_size.j1, if_neg (by decide)]
    rw [List.take_of_length_le (by omega)] at hx ⊢
    obtain ⟨t1, t2⟩ := takeWhile_all hx
    unfold rsz
    rw [t1, t2]
    by_cases h0 : i = 0
    · have : l = [] := List.eq_nil_of_length_eq_zero (by omega)
      rw [if_pos (by omega), if_pos (.inl this)]
      rfl
    · rw [if_neg (by omega), if_pos (by omega), if_pos (by rw [mk_size]; omega), if_neg (by
        rintro (h | h)
        · rw [h] at hi; simp at hi; omega
        · omega)]
      simp only [Int.toNat_natCast, ext_from]
      rw [List.drop_eq_nil_of_le (by omega)]
  | succ d ih =>
    intro k i hi hk h8 hx
    obtain ⟨k, rfl⟩ : ∃ k', k = k' + 2 := ⟨k - 2, by omega⟩
    obtain ⟨b, e1, e2⟩ := mk_bt l i (by omega)
    have hti : (l.take i).length = i := by rw [List.length_take]; omega
    have hdec : l = l.take i ++ (b :: l.drop (i + 1)) := by rw [← e1, List.take_append_drop]
    have et : l.take (i + 1) = l.take i ++ [b] := by
      have : (l.take i ++ (b :: l.drop (i + 1))).take (i + 1) = l.take i ++ [b] := by
        rw [List.take_append, hti]
        simp
        rw [List.take_of_length_le (by omega)]
      rw [← hdec] at this
      exact this
    rw [broadsheetref19_size.l0, if_pos (by rw [mk_size]; omega), if_pos (by omega), e2, rhexF b (k + 1) (by omega)]
    simp only [Option.bind_some]
    rw [hexR_ge, broadsheetref19_size.j1]
    cases hb : hexB b with
    | true =>
      rw [if_pos rfl]
      have htw : ∀ (n : Nat), n ≤ (l.takeWhile hexB).length ∨ True := fun _ => .inr trivial
      by_cases h8i : i = 8
      · -- nine digits
        have hlen : 8 < (l.takeWhile hexB).length := by
          have htw2 : l.takeWhile hexB = (l.take i ++ [b]) ++ (l.drop (i + 1)).takeWhile hexB := by
            have hall : ∀ c ∈ l.take i ++ [b], hexB c = true := by
              intro c hc
              rcases List.mem_append.1 hc with hc | hc
              · exact hx c hc
              · rw [List.mem_singleton.1 hc]; exact hb
            have hd2 : l = (l.take i ++ [b]) ++ l.drop (i + 1) := by rw [List.append_assoc]; exact hdec
            conv => lhs; rw [hd2]
            rw [List.takeWhile_append_of_pos hall]
          rw [htw2]
          simp only [List.length_append, List.length_singleton, hti]
          omega
        rw [if_pos (by omega)]
        unfold rsz
        rw [if_pos (.inr hlen)]
        rfl
      · rw [if_neg (by omega), if_pos (by omega), if_pos (by rw [mk_size]; omega), e2, rhexF b k (by omega)]
        simp only [Option.bind_some]
        have hv : hexR b = (((hexV b).getD 0 : Nat) : Int) := by
          unfold hexR
          unfold hexB at hb
          cases e : hexV b with
          | none => rw [e] at hb; simp at hb
          | some n => rfl
        have hlt := hexN_lt (l.take i)
        rw [hti] at hlt
        have h16 : 16 ^ i ≤ 16 ^ 8 := Nat.pow_le_pow_right (by decide) (by omega)
        have hpow : (16 : Nat) ^ 8 = 4294967296 := by decide
        have hvl := hexV_lt b
        rw [hv, wrap_id (x := ((hexN (l.take i) : Nat) : Int) * 16) (by omega) (by omega), wrap_id (by omega) (by omega), w1 i (by omega)]
        have e3 : ((hexN (l.take i) : Nat) : Int) * 16 + (((hexV b).getD 0 : Nat) : Int) = ((hexN (l.take (i + 1)) : Nat) : Int) := by rw [et, hexN_snoc]; omega
        rw [e3]
        refine ih k (i + 1) (by omega) (by omega) (by omega) (fun c hc => ?_)
        rw [et] at hc
        rcases List.mem_append.1 hc with hc | hc
        · exact hx c hc
        · rw [List.mem_singleton.1 hc]; exact hb
    | false =>
      have htw : l.takeWhile hexB = l.take i ∧ l.dropWhile hexB = b :: l.drop (i + 1) := by
        have h1 : (l.take i ++ (b :: l.drop (i + 1))).takeWhile hexB = l.take i := by
          rw [List.takeWhile_append_of_pos hx, List.takeWhile_cons_of_neg (by rw [hb]; simp), List.append_nil]
        have h2 : (l.take i ++ (b :: l.drop (i + 1))).dropWhile hexB = b :: l.drop (i + 1) := by
          rw [List.dropWhile_append_of_pos hx, List.dropWhile_cons_of_neg (by rw [hb]; simp)]
        rw [← hdec] at h1 h2
        exact ⟨h1, h2⟩
      unfold rsz
      rw [if_neg (by decide), htw.1, htw.2]
      by_cases h0 : i = 0
      · subst h0
        rw [if_pos (by omega), if_pos (.inl (by simp))]
        rfl
      · rw [if_neg (by omega), if_pos (by omega), if_pos (by rw [mk_size]; omega), if_neg (by
          rintro (h | h)
          · rw [h] at hti; simp at hti; omega
          · omega)]
        simp only [Int.toNat_natCast, ext_from]
        rw [e1]
theorem rsizeF (l : L) (k : Nat) (hl : l.length ≤ 100000000000) (hk : 2 * l.length + 5 ≤ k) : broadsheetref19_size.f k (mk l) = some ((rsz l).1, mk (rsz l).2) := by
  have := rsize_l0 l hl l.length k 0 (by omega) hk (by omega) (by simp)
  exact this
theorem two_at (s : L) (n : Nat) (h : n + 2 ≤ s.length) : ((s.drop n).take 2 = [13, 10]) ↔ (bt (mk s) n = 13 ∧ bt (mk s) ((n + 1 : Nat) : Int) = 10) := by
  obtain ⟨a, e1, e2⟩ := mk_bt s n (by omega)
  obtain ⟨b, e3, e4⟩ := mk_bt s (n + 1) (by omega)
  rw [e1, e3, e2, e4]
  have h13 : ((a.toNat : Int) = 13) ↔ a = 13 := u8i a 13 (by omega)
  have h10 : ((b.toNat : Int) = 10) ↔ b = 10 := u8i b 10 (by omega)
  rw [h13, h10]
  simp
theorem rdecode_l0 : ∀ (d f k : Nat) (s acc : L), s.length ≤ d → d < f → 8 * d + 40 ≤ k → s.length ≤ 10000000000 → acc.length ≤ 100000 →
    broadsheetref19_Decode.l0 k (mk s) (mk acc) = some (txt3 (decode f s acc)) := by
  intro d
  induction d with
  | zero =>
    intro f k s acc hs hf hk hl ha
    obtain ⟨k, rfl⟩ : ∃ k', k = k' + 2 := ⟨k - 2, by omega⟩
    obtain ⟨f, rfl⟩ : ∃ f', f = f' + 1 := ⟨f - 1, by omega⟩
    obtain rfl : s = [] := List.eq_nil_of_length_eq_zero (by omega)
    rw [broadsheetref19_Decode.l0, rLineF [] (k + 1) (by simp) (by simp), decode]
    simp only [Option.bind_some, line]
    rw [if_neg (by decide)]
    rfl
  | succ d ih =>
    intro f k s acc hs hf hk hl ha
    obtain ⟨k, rfl⟩ : ∃ k', k = k' + 2 := ⟨k - 2, by omega⟩
    obtain ⟨f, rfl⟩ : ∃ f', f = f' + 1 := ⟨f - 1, by omega⟩
    rw [broadsheetref19_Decode.l0, rLineF s (k + 1) (by omega) (by omega), decode]
    cases e1 : line s with
    | none =>
      simp only [Option.bind_some]
      rw [if_neg (by decide)]
      rfl
    | some p =>
      obtain ⟨l, more⟩ := p
      have hll := congrArg List.length (line_len s _ e1)
      simp only [List.length_append, List.length_cons] at hll
      simp only [Option.bind_some, if_true]
      rw [rsizeF l (k + 1) (by omega) (by omega)]
      simp only [Option.bind_some]
      have hdl := dw_len hexB l
      have hrl : (rsz l).2.length ≤ l.length := by
        unfold rsz
        split
        · simp
        · exact hdl
      obtain ⟨q, hq, hp⟩ := rparamsF (rsz l).2 (k + 1) (by omega) (by omega)
      rw [hq]
      simp only [Option.bind_some]
      rw [parsIs_ok hp]
      by_cases hc : l.takeWhile hexB = [] ∨ 8 < (l.takeWhile hexB).length
      · have hz : csize l = none := by
          unfold csize
          rw [if_pos (hc.elim .inl (fun h => .inr (.inl h)))]
        have hr : rsz l = (-1, []) := by unfold rsz; rw [if_pos hc]
        rw [hr, if_pos (by decide), broadsheetref19_Decode.j1, if_pos rfl, hz]
        rfl
      · have hr : rsz l = (((hexN (l.takeWhile hexB) : Nat) : Int), l.dropWhile hexB) := by unfold rsz; rw [if_neg hc]
        rw [hr, if_neg (by simp only; omega), broadsheetref19_Decode.j1]
        simp only
        cases ep : pars (l.dropWhile hexB) with
        | none =>
          have hz : csize l = none := by unfold csize; rw [if_pos (.inr (.inr ep))]
          rw [if_pos (by rfl), hz]
          rfl
        | some ps =>
          have hz : csize l = some (hexN (l.takeWhile hexB)) := by
            unfold csize
            rw [if_neg (by
              rintro (h | h | h)
              · exact hc (.inl h)
              · exact hc (.inr h)
              · rw [ep] at h; simp at h)]
          have hmb := csize_lt hz
          rw [if_neg (by simp), hz]
          simp only
          generalize hexN (l.takeWhile hexB) = m at *
          by_cases h0 : m = 0
          · rw [if_pos (by omega), if_pos h0, rparseF more k (by omega) (by omega)]
            simp only [Option.bind_some]
            by_cases hz2 : (fields more).2.2 = 0
            · rw [if_pos (show (fldB (fields more)).2.2 = 0 from hz2), if_pos hz2]
              rfl
            · rw [if_neg (show ¬ (fldB (fields more)).2.2 = 0 from hz2), if_neg hz2]
              rfl
          · have hw : wrap64 (100000 - (((mk acc).size : Nat) : Int)) = ((100000 - acc.length : Nat) : Int) := by rw [mk_size, wrap_id (by omega) (by omega)]; omega
            rw [if_neg (by omega), if_neg h0, hw]
            by_cases h1 : m + acc.length > 100000
            · rw [if_pos (by omega), if_pos h1]
              rfl
            rw [if_neg (by omega), if_neg h1, w2 m (by omega), w1 m (by omega), mk_size]
            by_cases h2 : more.length < m + 2
            · rw [if_pos (by omega)]
              by_cases h2' : more.length < m
              · rw [if_pos h2']; rfl
              · rw [if_neg h2', if_pos (by
                  intro h
                  have := congrArg List.length h
                  rw [List.length_take, List.length_drop] at this
                  simp at this
                  omega)]
                rfl
            rw [if_neg (by omega), if_neg (show ¬ more.length < m by omega), if_pos (by omega), if_pos (by omega)]
            have h2at := two_at more m (by omega)
            by_cases h13 : bt (mk more) m = 13
            · rw [if_pos h13, if_pos (by omega), if_pos (by omega)]
              by_cases h10 : bt (mk more) ((m + 1 : Nat) : Int) = 10
              · rw [if_pos h10, if_pos (by omega)]
                have h3 : ¬ ((more.drop m).take 2 ≠ [13, 10]) := fun h => h (h2at.2 ⟨h13, h10⟩)
                have htl : (more.take m).length = m := by rw [List.length_take]; omega
                simp only [Int.toNat_natCast, ext_to]
                rw [if_pos (by rw [mk_size, mk_size, htl]; omega), if_pos (by omega), if_pos (by omega), if_neg h3, mk_append]
                have e2 : (mk more).extract (m + 2) more.length = mk (more.drop (m + 2)) := by
                  have := ext_from more (m + 2)
                  rw [mk_size] at this
                  exact this
                rw [e2]
                exact ih f k (more.drop (m + 2)) (acc ++ more.take m) (by rw [List.length_drop]; omega) (by omega) (by omega) (by rw [List.length_drop]; omega) (by rw [List.length_append, htl]; omega)
              · rw [if_neg h10, if_pos (fun h => h10 (h2at.1 h).2)]
                rfl
            · rw [if_neg h13, if_pos (fun h => h13 (h2at.1 h).1)]
              rfl
theorem rdecodeF (s : L) (k : Nat) (hs : s.length ≤ 10000000000) (hk : 8 * s.length + 40 ≤ k) : broadsheetref19_Decode.f k (mk s) = some (txt3 (dec s)) :=
  rdecode_l0 s.length (s.length + 1) k s [] (Nat.le_refl _) (by omega) hk hs (by simp)

/-! ### A body told -/
def hexT : L := [48, 49, 50, 51, 52, 53, 54, 55, 56, 57, 97, 98, 99, 100, 101, 102]
theorem hexT_all : ∀ a : Fin 16, (hexT.drop a.val).take (a.val + 1 - a.val) = [hexC a.val] := by decide +kernel
theorem hexT_at (a : Nat) (h : a < 16) : (hexT.drop a).take (a + 1 - a) = [hexC a] := hexT_all ⟨a, h⟩
theorem rdig_eq (j : Nat) : ∀ (k n : Nat), n < 16 ^ (j + 1) → j < k → n ≤ 4294967296 → broadsheetref19_digits.f k n = some (mk (hexD n)) := by
  induction j with
  | zero =>
    intro k n hn hk hb
    obtain ⟨k, rfl⟩ : ∃ k', k = k' + 1 := ⟨k - 1, by omega⟩
    have em : Int.tmod (n : Int) 16 = ((n % 16 : Nat) : Int) := by rw [Int.tmod_eq_emod_of_nonneg (by omega)]; omega
    rw [broadsheetref19_digits.f, em, w1 (n % 16) (by omega), if_pos (by omega), if_pos (by omega), if_pos (by omega), if_pos (by omega)]
    simp only [Int.toNat_natCast]
    rw [show (⟨#[48, 49, 50, 51, 52, 53, 54, 55, 56, 57, 97, 98, 99, 100, 101, 102]⟩ : ByteArray) = mk hexT from rfl, ext_mk, hexT_at (n % 16) (by omega), hexD_lt (by omega)]
    rw [show n % 16 = n by omega]
  | succ j ih =>
    intro k n hn hk hb
    obtain ⟨k, rfl⟩ : ∃ k', k = k' + 1 := ⟨k - 1, by omega⟩
    have em : Int.tmod (n : Int) 16 = ((n % 16 : Nat) : Int) := by rw [Int.tmod_eq_emod_of_nonneg (by omega)]; omega
    have eq_ : Int.tdiv (n : Int) 16 = ((n / 16 : Nat) : Int) := by rw [Int.tdiv_eq_ediv_of_nonneg (by omega)]; omega
    rw [broadsheetref19_digits.f, em, w1 (n % 16) (by omega), if_pos (by omega), if_pos (by omega), if_pos (by omega)]
    simp only [Int.toNat_natCast]
    rw [show (⟨#[48, 49, 50, 51, 52, 53, 54, 55, 56, 57, 97, 98, 99, 100, 101, 102]⟩ : ByteArray) = mk hexT from rfl, ext_mk, hexT_at (n % 16) (by omega)]
    by_cases h : n < 16
    · rw [if_pos (by omega), hexD_lt h, show n % 16 = n by omega]
    · rw [if_neg (by omega), eq_, wrap_id (by omega) (by omega), ih k (n / 16) (by rw [Nat.pow_succ] at hn; omega) (by omega) (by omega)]
      simp only [Option.bind_some]
      have hdl := hexD_len 8 (n / 16) (by omega)
      rw [if_pos (by rw [mk_size, mk_size]; simp only [List.length_singleton]; omega), mk_append, ← hexD_ge h]
theorem rdigF (n k : Nat) (hn : n ≤ 4294967296) (hk : 9 ≤ k) : broadsheetref19_digits.f k n = some (mk (hexD n)) := rdig_eq 8 k n (by omega) (by omega) hn
theorem renc_l0 (n : Int) (hn : 1 ≤ n) : ∀ (d f k : Nat) (s acc : L), s.length ≤ d → d < f → d + 10 < k → s.length ≤ 4294967296 → acc.length + 20 * s.length ≤ 1000000000000 →
    broadsheetref19_Encode.l0 k (mk s) n (mk acc) = some (mk (acc ++ encode f s n.toNat), 0) := by
  intro d
  induction d with
  | zero =>
    intro f k s acc hs hf hk hl ha
    obtain ⟨k, rfl⟩ : ∃ k', k = k' + 1 := ⟨k - 1, by omega⟩
    obtain ⟨f, rfl⟩ : ∃ f', f = f' + 1 := ⟨f - 1, by omega⟩
    obtain rfl : s = [] := List.eq_nil_of_length_eq_zero (by omega)
    rw [broadsheetref19_Encode.l0, if_neg (by rw [mk_size]; simp), if_pos (by rw [mk_size]; omega), encode, if_pos rfl, show (⟨#[48, 13, 10, 13, 10]⟩ : ByteArray) = mk [48, 13, 10, 13, 10] from rfl, mk_append]
  | succ d ih =>
    intro f k s acc hs hf hk hl ha
    obtain ⟨k, rfl⟩ : ∃ k', k = k' + 1 := ⟨k - 1, by omega⟩
    obtain ⟨f, rfl⟩ : ∃ f', f = f' + 1 := ⟨f - 1, by omega⟩
    rw [broadsheetref19_Encode.l0, encode, mk_size, mk_size]
    by_cases h0 : s = []
    · subst h0
      rw [if_neg (by simp), if_pos rfl, if_pos (by omega), show (⟨#[48, 13, 10, 13, 10]⟩ : ByteArray) = mk [48, 13, 10, 13, 10] from rfl, mk_append]
    · have hp : 0 < s.length := List.length_pos_iff.2 h0
      rw [if_pos (by omega), if_neg h0, mn_nat n s hn]
      obtain ⟨m, hm⟩ : ∃ m, m = min n.toNat s.length := ⟨_, rfl⟩
      rw [← hm, rdigF m k (by omega) (by omega)]
      have hdl := hexD_len 8 m (by omega)
      have et : s.take n.toNat = s.take m := by rw [hm]; exact (List.take_eq_take_min).trans (by rfl)
      have ed : s.drop n.toNat = s.drop m := by
        by_cases h : n.toNat ≤ s.length
        · rw [show m = n.toNat by omega]
        · rw [List.drop_eq_nil_of_le (by omega), List.drop_eq_nil_of_le (by omega)]
      have htl : (s.take m).length = m := by rw [List.length_take]; omega
      have e2 : (mk s).extract m s.length = mk (s.drop m) := by
        have := ext_from s m
        rw [mk_size] at this
        exact this
      simp only [Option.bind_some, Int.toNat_natCast, show (⟨#[13, 10]⟩ : ByteArray) = mk [13, 10] from rfl, mk_append, mk_size, ext_to, List.length_append, List.length_cons, List.length_nil, htl]
      rw [if_pos (by omega), if_pos (by omega), if_pos (by omega), if_pos (by omega), if_pos (by omega), if_pos (by omega)]
      rw [e2, ih f k (s.drop m) _ (by rw [List.length_drop]; omega) (by omega) (by omega) (by rw [List.length_drop]; omega) (by simp only [List.length_append, List.length_cons, List.length_nil, htl, List.length_drop]; omega), et, ed]
      congr 2
      simp
theorem rencodeF (s : L) (n : Int) (k : Nat) (hk : s.length + 10 < k) : broadsheetref19_Encode.f k (mk s) n = some (mk (encR s n).1, (encR s n).2) := by
  unfold broadsheetref19_Encode.f encR
  rw [mk_size]
  by_cases h1 : n < 1
  · rw [if_pos h1, if_pos h1]; rfl
  rw [if_neg h1, if_neg h1]
  by_cases h2 : s.length > 100000
  · rw [if_pos (by omega), if_pos h2]; rfl
  rw [if_neg (by omega), if_neg h2]
  have := renc_l0 n (by omega) s.length (s.length + 1) k s [] (Nat.le_refl _) (by omega) hk (by omega) (by simp; omega)
  rw [List.nil_append] at this
  exact this
end Go.Proofs.YteonhdfjfjpbjaaGreatDoor.Sp

/- SpH -/
namespace Go.Proofs.YteonhdfjfjpbjaaGreatDoor.Sp
open Go Go.RowKit Go.Proofs.YteonhdfjfjpbjaaGreatDoorW.PrintWords Go.Proofs.YteonhdfjfjpbjaaGreatDoorW.PrintLast Go.Proofs.YteonhdfjfjpbjaaGreatDoor.O Go.Proofs.YteonhdfjfjpbjaaGreatDoor.P
set_option linter.unusedVariables false
set_option linter.unusedSimpArgs false

theorem dec_a : dec [51, 59, 97, 61, 98, 13, 10, 97, 98, 99, 13, 10, 48, 13, 10, 88, 58, 32, 121, 13, 10, 13, 10, 122] = ([97, 98, 99], [122], 0) := by decide +kernel
theorem dec_b : dec [51, 13, 10, 97, 98, 13, 10] = ([], [], 190) := by decide +kernel
theorem enc_a : enc [97, 98, 99, 100] 3 = [51, 13, 10, 97, 98, 99, 13, 10, 49, 13, 10, 100, 13, 10, 48, 13, 10, 13, 10] := by
  simp [enc, encode, hexD_lt, hexC]
theorem awake19 (k : Nat) (hk : 1000 ≤ k) : broadsheetlaw19_awake.f k = some true := by
  unfold broadsheetlaw19_awake.f
  rw [show (⟨#[51, 59, 97, 61, 98, 13, 10, 97, 98, 99, 13, 10, 48, 13, 10, 88, 58, 32, 121, 13, 10, 13, 10, 122]⟩ : ByteArray) = mk [51, 59, 97, 61, 98, 13, 10, 97, 98, 99, 13, 10, 48, 13, 10, 88, 58, 32, 121, 13, 10, 13, 10, 122] from rfl, show (⟨#[97, 98, 99, 100]⟩ : ByteArray) = mk [97, 98, 99, 100] from rfl, show (⟨#[51, 13, 10, 97, 98, 13, 10]⟩ : ByteArray) = mk [51, 13, 10, 97, 98, 13, 10] from rfl]
  rw [decodeF _ k (by decide) (by simp; omega), encodeF _ 3 k (by simp; omega), decodeF _ k (by decide) (by simp; omega), dec_a, dec_b]
  have e : encR [97, 98, 99, 100] 3 = ([51, 13, 10, 97, 98, 99, 13, 10, 49, 13, 10, 100, 13, 10, 48, 13, 10, 13, 10], 0) := by
    unfold encR
    rw [if_neg (by decide), if_neg (by decide)]
    show (enc _ 3, (0 : Int)) = _
    rw [enc_a]
  rw [e]
  simp only [Option.bind_some, txt3, tl_mk]
  simp
theorem enc_bd (n : Nat) (hn : 1 ≤ n) : ∀ (d f : Nat) (s : L), s.length ≤ d → d < f → s.length ≤ 4294967296 → s.length ≤ (encode f s n).length ∧ 1 ≤ (encode f s n).length ∧ (encode f s n).length ≤ 20 * s.length + 5 := by
  intro d
  induction d with
  | zero =>
    intro f s hs hf hb
    obtain ⟨f, rfl⟩ : ∃ f', f = f' + 1 := ⟨f - 1, by omega⟩
    obtain rfl : s = [] := List.eq_nil_of_length_eq_zero (by omega)
    rw [encode, if_pos rfl]
    simp
  | succ d ih =>
    intro f s hs hf hb
    obtain ⟨f, rfl⟩ : ∃ f', f = f' + 1 := ⟨f - 1, by omega⟩
    by_cases h0 : s = []
    · subst h0
      rw [encode, if_pos rfl]
      simp
    · have hp : 0 < s.length := List.length_pos_iff.2 h0
      rw [encode, if_neg h0]
      have hdl := hexD_len 8 (min n s.length) (by omega)
      obtain ⟨h1, h2, h3⟩ := ih f (s.drop n) (by rw [List.length_drop]; omega) (by omega) (by rw [List.length_drop]; omega)
      rw [List.length_drop] at h1 h3
      simp only [List.length_append, List.length_cons, List.length_nil, List.length_take]
      omega
theorem enc_len (s : L) (n : Nat) (hn : 1 ≤ n) (hs : s.length ≤ 4294967296) : s.length ≤ (enc s n).length ∧ 1 ≤ (enc s n).length ∧ (enc s n).length ≤ 20 * s.length + 5 := enc_bd n hn s.length _ s (Nat.le_refl _) (by omega) hs
theorem dec_enc (s b : L) (n : Nat) (hn : 1 ≤ n) (hs : s.length ≤ 100000) : dec (enc s n ++ b) = (s, b, 0) := by
  have := (enc_len s n hn (by omega)).1
  exact enc_back s b n hn hs _ (by rw [List.length_append]; omega)
/-- A reader of bodies in parts does not look at how much it may take, if that is enough. -/
theorem decode_more : ∀ (d f g : Nat) (s acc : L), s.length ≤ d → d < f → d < g → decode f s acc = decode g s acc := by
  intro d
  induction d with
  | zero =>
    intro f g s acc hs hf hg
    obtain ⟨f, rfl⟩ : ∃ f', f = f' + 1 := ⟨f - 1, by omega⟩
    obtain ⟨g, rfl⟩ : ∃ g', g = g' + 1 := ⟨g - 1, by omega⟩
    obtain rfl : s = [] := List.eq_nil_of_length_eq_zero (by omega)
    rfl
  | succ d ih =>
    intro f g s acc hs hf hg
    obtain ⟨f, rfl⟩ : ∃ f', f = f' + 1 := ⟨f - 1, by omega⟩
    obtain ⟨g, rfl⟩ : ∃ g', g = g' + 1 := ⟨g - 1, by omega⟩
    rw [decode, decode]
    cases e1 : line s with
    | none => rfl
    | some p =>
      have hll := congrArg List.length (line_len s _ e1)
      simp only [List.length_append, List.length_cons] at hll
      simp only
      cases csize p.1 with
      | none => rfl
      | some n =>
        simp only
        rw [ih f g (p.2.drop (n + 2)) (acc ++ p.2.take n) (by rw [List.length_drop]; omega) (by omega) (by omega)]
theorem dec_cut (s : L) (n k : Nat) (hn : 1 ≤ n) (hs : s.length ≤ 100000) (hk : k < (enc s n).length) : dec ((enc s n).take k) = ([], [], 190) := by
  have h1 := enc_cut s n k hn hs (s.length + (enc s n).length + 1) (by omega) hk
  unfold dec
  rw [decode_more ((enc s n).take k).length _ (s.length + (enc s n).length + 1) _ _ (Nat.le_refl _) (by omega) (by rw [List.length_take]; omega)]
  exact h1
end Go.Proofs.YteonhdfjfjpbjaaGreatDoor.Sp

/- CardW -/
namespace Go.Proofs.YteonhdfjfjpbjaaGreatDoor.Cg
open Go.RowKit Go.Proofs.YteonhdfjfjpbjaaGreatDoor.P Go.Proofs.YteonhdfjfjpbjaaGreatDoorW.PrintWords Go.Proofs.YteonhdfjfjpbjaaGreatDoorW.PrintLast Go.Proofs.YteonhdfjfjpbjaaGreatDoor.O
open Go.ChangeShapes Go.WideShapes Go.Deep
set_option linter.unusedVariables false

/-- The plain wrap, with a condition of one's own and the world's shape. -/
theorem wrapS {H : Type} {enc : TypeId × Value → H} {a : Assume} {C : Checked} {os : Os} {f : FuncId} {fn : Func} {s : ChangeSpec} {conds : List PathCond} {apart fresh handsOn again : Bool} {X : World → Array Value → Prop}
    (hX : ∀ (w w' : World) (args : Array Value), w.heap = w'.heap → X w args → X w' args)
    (own : ownKnob C.prog.godebug = none) (started : os.Started) (noInit : C.prog.inits.idxOf? f = none) (hfn : C.prog.funcs[f]? = some fn)
    (witness : ∃ (w : World) (tape : Tape) (i : Input), w.os = os ∧ (w.forCall tape i).Shaped C.prog ∧ i.vars = [] ∧ Input.okWide C.prog (w.forCall tape i) .any w.heap.size f i ∧
      ((s.pre enc C.prog fn conds apart (w.forCall tape i).memory i.args ∧ X (w.forCall tape i).memory i.args) ∧ sizedMet enc C.prog fn (OpenSpec.ofChange s) apart (w.forCall tape i).memory i.args) ∧ a.holds C.prog (lone (Frame.enter C.prog f i.args .normal) [] (w.forCall tape i)))
    (contract : ∀ (W : World) (base : Nat) (args : Array Value) (ds gs : List (DataW H)) (before : List MemPlace),
      (∀ (j : Nat) t v, fn.params[j]? = some t → args[j]? = some v → Value.okWide C.prog W .any base t v) →
      DataW.Whole enc C.prog fn.params.toList s.vars apart W args.toList ds gs before →
      (DataW.weightsEach C.prog (fn.params.toList ++ s.plain.varTypes C.prog) (ds ++ gs)).all (· ≤ reachBytes) = true → X W args → W.ShapedOpen C.prog →
      Calls C.prog f args W fun e W' => ∃ v, e = .returned v ∧ s.post enc C.prog fn apart fresh handsOn again W args v W') :
    ReturnsInHanded a C os f .any (fun w args => (s.pre enc C.prog fn conds apart w args ∧ X w args) ∧ sizedMet enc C.prog fn (OpenSpec.ofChange s) apart w args) (s.post enc C.prog fn apart fresh handsOn again) := by
  refine returnsInHanded_of_calls own started noInit witness ?_
  intro w tape i _ hsh _ hok hpre _
  obtain ⟨_, _, _, fn', hfn', _, _, _, _, hval⟩ := hok
  obtain rfl : fn' = fn := Option.some.inj (hfn'.symm.trans hfn)
  obtain ⟨⟨⟨ds, gs, before, hw, _⟩, hx⟩, hz⟩ := hpre
  refine (contract (w.forCall tape i) w.heap.size i.args ds gs before hval (DataW.Whole.of_heap (w' := w.forCall tape i) (by rfl) hw) (hz.weights hw) (hX _ _ _ (by rfl) hx) hsh).mono fun e W' ⟨v, he, hp⟩ => ?_
  subst he
  exact ChangeSpec.post_blind hp

theorem var_iface {W : World} {n nm : String} {d : DataW Unit} {g t : Nat} {ms : Array (String × TypeId)} (h : Lib.VarReads Tryz.prog W n (.iface nm d)) (hg : Tryz.prog.globalNamed n = some g) (ht : (Tryz.prog.globals[g]?).map (·.type) = some t) (hi : Tryz.prog.underlying t = some (.interface ms)) :
    ∃ t p, W.var? Tryz.prog n = some #[.iface t p] := by
  obtain ⟨g', t', cs, fuel, p, hg', ht', hv, hd⟩ := h
  obtain rfl := Option.some.inj (hg.symm.trans hg')
  obtain rfl := Option.some.inj (ht.symm.trans ht')
  obtain ⟨_, u, v, e, _, _⟩ := iface_of_trod hi hd
  refine ⟨u, v, ?_⟩
  rw [hv]
  cases cs
  simp only at e
  rw [e]
end Go.Proofs.YteonhdfjfjpbjaaGreatDoor.Cg

/- CardG -/
namespace Go.Proofs.YteonhdfjfjpbjaaGreatDoor.Cg
open Go.RowKit Go.Proofs.YteonhdfjfjpbjaaGreatDoor.P Go.Proofs.YteonhdfjfjpbjaaGreatDoorW.PrintWords Go.Proofs.YteonhdfjfjpbjaaGreatDoorW.PrintLast Go.Proofs.YteonhdfjfjpbjaaGreatDoor.O
open Go.ChangeShapes Go.WideShapes Go.Deep
set_option linter.unusedVariables false
abbrev laidL : List (String × DataW Unit) := Rows.chunkLongRow.laid
theorem glob_of {W : World} (h : laidMetH Tryz.prog laidL W) (hsh : W.ShapedOpen Tryz.prog) : Glob W := by
  rw [MakeChecks.laidMetH_plain _ _ _ (by kernel_rfl)] at h
  refine ⟨?_, ?_, ?_, ?_, ?_⟩
  · obtain ⟨g', t', cs, fuel, p, hg', ht', hv, hd⟩ := Lib.laidMet.reads h (n := "internal/strconv.uint64pow10") (d := Rows.laid_internal_strconv_uint64pow10) (.tail _ (.tail _ (.head _)))
    obtain rfl := Option.some.inj (gpow.symm.trans hg')
    obtain rfl := Option.some.inj ((show (Tryz.prog.globals[0]?).map (·.type) = some 138 by kernel_rfl).symm.trans ht')
    have hd' : DataW.trod (fun _ => ()) Tryz.prog W 0 (fun _ => true) false fuel 138 cs.toList = some (Lib.tabData .u64 (Lib.pow10Tab), p) := hd
    unfold Lib.TabIs
    rw [hv, ← Lib.cells_of_tab Tryz.underlying138 Tryz.underlying82 (by kernel_rfl) (by kernel_rfl) hd']
  · have hb : ((begin Tryz.prog (fun _ _ => 0) default).world.heap[1]?).bind Obj.row? = some (#[.int .i64 0], 3) := by kernel_rfl
    obtain ⟨m, hm⟩ := cell_of_shapedOpen_int hsh (of_decide_eq_true (by kernel_rfl)) hb rfl (by kernel_rfl) (by kernel_rfl) Tryz.underlying3
    obtain ⟨cs, hh, hs, _⟩ := hsh.1 _ _ _ (of_decide_eq_true (by kernel_rfl)) hb
    refine ⟨m, ?_⟩
    have h1 : 0 < cs.size := by rw [hs]; decide
    have hc : cs[0] = .int .i64 m := by
      have : W.cell? ⟨1, 0, none⟩ = some cs[0] := by simp [World.cell?, hh, h1]
      exact Option.some.inj (this.symm.trans hm)
    unfold World.var?
    rw [gmlen]
    simp only [Option.bind_some, hh]
    congr 1
    apply Array.ext
    · rw [hs]; rfl
    · intro i hi1 hi2
      have : i = 0 := by rw [hs] at hi1; simp at hi1; exact hi1
      subst this
      rw [hc]; rfl
  · exact var_iface (Lib.laidMet.reads h (n := "strconv.ErrSyntax") (d := Rows.laid_strconv_ErrSyntax) (.tail _ (.tail _ (.tail _ (.tail _ (.tail _ (.head _))))))) gsyn (by kernel_rfl) Tryz.underlying56
  · exact var_iface (Lib.laidMet.reads h (n := "strconv.ErrRange") (d := Rows.laid_strconv_ErrRange) (.tail _ (.tail _ (.tail _ (.tail _ (.head _)))))) grng (by kernel_rfl) Tryz.underlying56
  · obtain ⟨g', t', cs, fuel, p, hg', ht', hv, hd⟩ := Lib.laidMet.reads h (n := "math/bits.deBruijn64tab") (d := Rows.laid_math_bits_deBruijn64tab) (.tail _ (.head _))
    obtain rfl := Option.some.inj (gbru.symm.trans hg')
    obtain rfl := Option.some.inj ((show (Tryz.prog.globals[7]?).map (·.type) = some 164 by kernel_rfl).symm.trans ht')
    have hd' : DataW.trod (fun _ => ()) Tryz.prog W 0 (fun _ => true) false fuel 164 cs.toList = some (Lib.tabData .u8 (Lib.deBruijn64tab.map Int.ofNat), p) := hd
    unfold Lib.TabIs
    rw [hv, ← Lib.cells_of_tab Tryz.underlying164 Tryz.underlying5 (by kernel_rfl) (by kernel_rfl) hd']
end Go.Proofs.YteonhdfjfjpbjaaGreatDoor.Cg
