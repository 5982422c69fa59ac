/- Texts of this seat, joined: lemmas and walks that its statements' proofs use. -/
import Derived.Test.YteonhdfjfjpbjaaGreatDoorK1
import Derived.Lib.IndexMore
import Derived.Lib.SlTrimSet
import Derived.RangeFuncNested
import Derived.RangeFuncBound
import Derived.RangeFuncCalls
import Derived.RangeFuncLeaves
import Derived.Shelf.Abstract
import Derived.Shelf.RegionOpen
import Derived.WalkKit
import Derived.OwnWalkIn
import Derived.TacticsInMore
import Derived.LoopNIn
import Derived.LoopIn
import Derived.Maps.AppendAt
/- Px12 -/
namespace Go.Proofs.YteonhdfjfjpbjaaGreatDoor.P
open Go.Proofs.YteonhdfjfjpbjaaGreatDoor.B
open Go.RowKit Go.Proofs.YteonhdfjfjpbjaaGreatDoorW.PrintWords Go.Proofs.YteonhdfjfjpbjaaGreatDoorW.PrintLast Go.Proofs.YteonhdfjfjpbjaaGreatDoorW.PrintMore
attribute [local go_sem] str_leq str_gtr str_geq max2_int min2_int max_two min_two max_three min_three max_four min_four   -- for this text's walks alone
set_option linter.unusedVariables false
set_option linter.unusedSimpArgs false

open Go.Proofs.YteonhdfjfjpbjaaGreatDoor.O
/-! ### chunk_size: function 32 -/
def chunk_size.f (k : Nat) (a0 : ByteArray) : Option (Int × Bool) := (strings_TrimLeft.f a0 (⟨#[48, 49, 50, 51, 52, 53, 54, 55, 56, 57, 97, 98, 99, 100, 101, 102, 65, 66, 67, 68, 69, 70]⟩ : ByteArray)).bind fun t140 => (if 0 ≤ (wrap64 ((a0.size : Int) - (t140.size : Int))) then (if (wrap64 ((a0.size : Int) - (t140.size : Int))) ≤ (a0.size : Int) then (if 0 ≤ ((a0.extract 0 ((wrap64 ((a0.size : Int) - (t140.size : Int))) : Int).toNat).size : Int) then (if ((a0.extract 0 ((wrap64 ((a0.size : Int) - (t140.size : Int))) : Int).toNat).size : Int) ≤ (a0.size : Int) then ((media_Text_Params.f k (a0.extract (((a0.extract 0 ((wrap64 ((a0.size : Int) - (t140.size : Int))) : Int).toNat).size : Int) : Int).toNat a0.size)).bind fun bt142 => ((strconv_ParseUint.f (a0.extract 0 ((wrap64 ((a0.size : Int) - (t140.size : Int))) : Int).toNat) 16 64).bind fun bt147 => (if bt147.2.isNone = true then (if bt142.2.1 = true then (some (wrap64 (bt147.1), decide (((a0.extract 0 ((wrap64 ((a0.size : Int) - (t140.size : Int))) : Int).toNat).size : Int) ≤ 8))) else (some (wrap64 (bt147.1), false))) else (if bt142.2.1 = true then (some (wrap64 (bt147.1), false)) else (some (wrap64 (bt147.1), false)))))) else (none)) else (none)) else (none)) else (none))
theorem chunk_size.mono : ∀ a0 k, LeO (chunk_size.f k a0) (chunk_size.f (k + 1) a0) := by
  intro a0 k
  unfold chunk_size.f
  repeat' first
      | (with_reducible exact media_Text_Params.mono _ _)
      | (with_reducible exact LeO.refl _)
      | (with_reducible exact LeO.none _)
      | (with_reducible refine LeO.ite ?_ ?_)
      | (with_reducible refine LeO.bind ?_ (fun _ => ?_))
      | exact media_Text_Params.mono _ _
      | exact LeO.none _
      | refine LeO.ite ?_ ?_
      | refine LeO.bind ?_ (fun _ => ?_)
set_option maxHeartbeats 8000000 in
set_option maxRecDepth 100000 in
theorem chunk_size.calls (k : Nat) (a0 : ByteArray) (r1 : Int) (r2 : Bool) (w : World) (hG : Glob w) (h : chunk_size.f k a0 = some (r1, r2)) :
    Calls Tryz.prog 32 #[.string a0] w fun e w' => e = .returned (.tuple #[.int .i64 r1, .bool r2]) ∧ Below w.heap.size w w' := by
  have hu56 := Tryz.underlying56
  have HB := Aside0.mk (Below.refl w.heap.size w)
  have hGA := Aside0.mk hG
  clear hG
  have H : ((strings_TrimLeft.f a0 (⟨#[48, 49, 50, 51, 52, 53, 54, 55, 56, 57, 97, 98, 99, 100, 101, 102, 65, 66, 67, 68, 69, 70]⟩ : ByteArray)).bind fun t140 => (if 0 ≤ (wrap64 ((a0.size : Int) - (t140.size : Int))) then (if (wrap64 ((a0.size : Int) - (t140.size : Int))) ≤ (a0.size : Int) then (if 0 ≤ ((a0.extract 0 ((wrap64 ((a0.size : Int) - (t140.size : Int))) : Int).toNat).size : Int) then (if ((a0.extract 0 ((wrap64 ((a0.size : Int) - (t140.size : Int))) : Int).toNat).size : Int) ≤ (a0.size : Int) then ((media_Text_Params.f k (a0.extract (((a0.extract 0 ((wrap64 ((a0.size : Int) - (t140.size : Int))) : Int).toNat).size : Int) : Int).toNat a0.size)).bind fun bt142 => ((strconv_ParseUint.f (a0.extract 0 ((wrap64 ((a0.size : Int) - (t140.size : Int))) : Int).toNat) 16 64).bind fun bt147 => (if bt147.2.isNone = true then (if bt142.2.1 = true then (some (wrap64 (bt147.1), decide (((a0.extract 0 ((wrap64 ((a0.size : Int) - (t140.size : Int))) : Int).toNat).size : Int) ≤ 8))) else (some (wrap64 (bt147.1), false))) else (if bt142.2.1 = true then (some (wrap64 (bt147.1), false)) else (some (wrap64 (bt147.1), false)))))) else (none)) else (none)) else (none)) else (none))) = some (r1, r2) := h
  clear h
  replace H := Option.bind_eq_some_iff.mp H
  obtain ⟨t140, A20, H⟩ := H
  replace H : (if 0 ≤ (wrap64 ((a0.size : Int) - (t140.size : Int))) then (if (wrap64 ((a0.size : Int) - (t140.size : Int))) ≤ (a0.size : Int) then (if 0 ≤ ((a0.extract 0 ((wrap64 ((a0.size : Int) - (t140.size : Int))) : Int).toNat).size : Int) then (if ((a0.extract 0 ((wrap64 ((a0.size : Int) - (t140.size : Int))) : Int).toNat).size : Int) ≤ (a0.size : Int) then ((media_Text_Params.f k (a0.extract (((a0.extract 0 ((wrap64 ((a0.size : Int) - (t140.size : Int))) : Int).toNat).size : Int) : Int).toNat a0.size)).bind fun bt142 => ((strconv_ParseUint.f (a0.extract 0 ((wrap64 ((a0.size : Int) - (t140.size : Int))) : Int).toNat) 16 64).bind fun bt147 => (if bt147.2.isNone = true then (if bt142.2.1 = true then (some (wrap64 (bt147.1), decide (((a0.extract 0 ((wrap64 ((a0.size : Int) - (t140.size : Int))) : Int).toNat).size : Int) ≤ 8))) else (some (wrap64 (bt147.1), false))) else (if bt142.2.1 = true then (some (wrap64 (bt147.1), false)) else (some (wrap64 (bt147.1), false)))))) else (none)) else (none)) else (none)) else (none)) = some (r1, r2) := H
  have A2 := Aside0.mk A20
  clear A20
  obtain ⟨ji3, hji3⟩ : ∃ j_ : Int, (wrap64 ((a0.size : Int) - (t140.size : Int))) = j_ := ⟨_, rfl⟩
  replace H : (if 0 ≤ (ji3) then (if (ji3) ≤ (a0.size : Int) then (if 0 ≤ ((a0.extract 0 ((ji3) : Int).toNat).size : Int) then (if ((a0.extract 0 ((ji3) : Int).toNat).size : Int) ≤ (a0.size : Int) then ((media_Text_Params.f k (a0.extract (((a0.extract 0 ((ji3) : Int).toNat).size : Int) : Int).toNat a0.size)).bind fun bt142 => ((strconv_ParseUint.f (a0.extract 0 ((ji3) : Int).toNat) 16 64).bind fun bt147 => (if bt147.2.isNone = true then (if bt142.2.1 = true then (some (wrap64 (bt147.1), decide (((a0.extract 0 ((ji3) : Int).toNat).size : Int) ≤ 8))) else (some (wrap64 (bt147.1), false))) else (if bt142.2.1 = true then (some (wrap64 (bt147.1), false)) else (some (wrap64 (bt147.1), false)))))) else (none)) else (none)) else (none)) else (none)) = some (r1, r2) := by first | (rw [hji3] at H; exact H) | (simp only [hji3] at H ⊢; exact H)
  (try rw [hji3] at A2)
  have hji3w : (IntKind.i64.wrap ((a0.size : Int) - (t140.size : Int))) = ji3 := (i64_w _).trans hji3
  by_cases c4 : 0 ≤ (ji3)
  · rw [if_pos c4] at H
    have c4b0 := eq_true c4
    have c4b1 : decide (0 ≤ (ji3)) = true := decide_eq_true c4
    clear c4
    by_cases c5 : (ji3) ≤ (a0.size : Int)
    · rw [if_pos c5] at H
      have c5b0 := eq_true c5
      have c5b1 : decide ((ji3) ≤ (a0.size : Int)) = true := decide_eq_true c5
      clear c5
      by_cases c6 : 0 ≤ ((a0.extract 0 ((ji3) : Int).toNat).size : Int)
      · rw [if_pos c6] at H
        have c6b0 := eq_true c6
        have c6b1 : decide (0 ≤ ((a0.extract 0 ((ji3) : Int).toNat).size : Int)) = true := decide_eq_true c6
        clear c6
        by_cases c7 : ((a0.extract 0 ((ji3) : Int).toNat).size : Int) ≤ (a0.size : Int)
        · rw [if_pos c7] at H
          have c7b0 := eq_true c7
          have c7b1 : decide (((a0.extract 0 ((ji3) : Int).toNat).size : Int) ≤ (a0.size : Int)) = true := decide_eq_true c7
          clear c7
          replace H := Option.bind_eq_some_iff.mp H
          obtain ⟨⟨t142, t145, t146⟩, A80, H⟩ := H
          replace H : ((strconv_ParseUint.f (a0.extract 0 ((ji3) : Int).toNat) 16 64).bind fun bt147 => (if bt147.2.isNone = true then (if t145 = true then (some (wrap64 (bt147.1), decide (((a0.extract 0 ((ji3) : Int).toNat).size : Int) ≤ 8))) else (some (wrap64 (bt147.1), false))) else (if t145 = true then (some (wrap64 (bt147.1), false)) else (some (wrap64 (bt147.1), false))))) = some (r1, r2) := H
          have e80 : (((a0.extract 0 ((ji3) : Int).toNat).size : Int)).toNat = (max ji3 0).toNat := by have p1 := of_eq_true c4b0; have p2 := of_eq_true c5b0; rw [ByteArray.size_extract]; omega
          rw [e80] at A80
          have e81 : ((a0.extract 0 ((ji3) : Int).toNat).size : Int) = max ji3 0 := by have p1 := of_eq_true c4b0; have p2 := of_eq_true c5b0; rw [ByteArray.size_extract]; omega
          have e81 := Aside0.mk e81
          have e82 : (max ji3 0 ≤ (a0.size : Int)) = True := eq_true (by have p1 := of_eq_true c4b0; have p2 := of_eq_true c5b0; omega)
          have e83 : decide (max ji3 0 ≤ (a0.size : Int)) = true := decide_eq_true (of_eq_true e82)
          have A8 := Aside0.mk A80
          clear A80
          replace H := Option.bind_eq_some_iff.mp H
          obtain ⟨⟨t147, t148⟩, A90, H⟩ := H
          replace H : (if t148.isNone = true then (if t145 = true then (some (wrap64 (t147), decide (((a0.extract 0 ((ji3) : Int).toNat).size : Int) ≤ 8))) else (some (wrap64 (t147), false))) else (if t145 = true then (some (wrap64 (t147), false)) else (some (wrap64 (t147), false)))) = some (r1, r2) := H
          have A9 := Aside0.mk A90
          clear A90
          rcases t148 with _ | q149
          · have H1 : (if t145 = true then (some (wrap64 (t147), decide (((a0.extract 0 ((ji3) : Int).toNat).size : Int) ≤ 8))) else (some (wrap64 (t147), false))) = some (r1, r2) := by rw [if_pos (show (none : Option Int).isNone = true by rfl)] at H; exact H
            clear H
            have H := H1
            clear H1
            try simp only [errW_none, errW_some]
            by_cases c10 : t145 = true
            · subst c10
              have H1 : (some (wrap64 (t147), decide (((a0.extract 0 ((ji3) : Int).toNat).size : Int) ≤ 8))) = some (r1, r2) := by rw [if_pos rfl] at H; exact H
              clear H
              have H := H1
              clear H1
              simp only [Option.some.injEq, Prod.mk.injEq] at H
              obtain ⟨rfl, rfl⟩ := H
              go_enter Tryz.func32, Tryz.ntmps32
              go_wp2_with (first | ((with_reducible refine gate_callee (f := 58) rfl ?_); refine goesL_ (some 14) rfl rfl Tryz.func58 (by kernel_rfl) rfl #[.string a0, .string (⟨#[48, 49, 50, 51, 52, 53, 54, 55, 56, 57, 97, 98, 99, 100, 101, 102, 65, 66, 67, 68, 69, 70]⟩ : ByteArray)] rfl (by (try simp only [List.map_toArray, List.map_cons, List.map_nil]); first | done | rfl | (simp only [List.length_drop, List.length_take]; rfl)) ?_; (with_reducible refine (strings_TrimLeft.calls a0 (⟨#[48, 49, 50, 51, 52, 53, 54, 55, 56, 57, 97, 98, 99, 100, 101, 102, 65, 66, 67, 68, 69, 70]⟩ : ByteArray) t140 _ A2.out).mono ?_); rintro e w11 ⟨rfl, hb⟩; refine ⟨_, rfl, ?_⟩; have n0_ := Aside0.mk (below_step (by repeat (first | (with_reducible first | exact HB.out | apply below_alloc | apply pw_below_drewN | apply below_drew1) | exact HB.out)) hb); clear HB; have HB := n0_; clear n0_; (try clear hb); (try clear hb2); (try clear hk); (try clear hi)) | ((with_reducible refine gate_dst (N := 5) rfl ?_); (try (refine gate_guard (by rfl) ?_; dsimp only)); refine box_event ?hg (N := 5) ?hd (cs := #[.string (⟨#[]⟩ : ByteArray)]) (t := 90) ?hr ?_; (case hd => rfl); (case hg => rfl); (case hr => first | (go_simp; done) | (go_simp; rfl)); intro gb141 hg w12 hbox hb; have n0_ := Aside0.mk (below_step (by repeat (first | (with_reducible first | exact HB.out | apply below_alloc | apply pw_below_drewN | apply below_drew1) | exact HB.out)) hb); have n1_ := Aside0.mk ((by rw [hg]; exact (below_size (by repeat (first | (with_reducible first | exact HB.out | apply below_alloc | apply pw_below_drewN | apply below_drew1) | exact HB.out))) : w.heap.size ≤ gb141)); have n2_ := Aside0.mk ((by rw [hg]; exact (below_size (by repeat (first | (with_reducible first | exact HB.out | apply below_alloc | apply pw_below_drewN | apply below_drew1) | exact HB.out))) : w.heap.size ≤ gb141)); have n3_ := Aside0.mk ((show IsS90 w w12 gb141 (⟨#[]⟩ : ByteArray) from ⟨hbox, (by rw [hg]; exact (below_size (by repeat (first | (with_reducible first | exact HB.out | apply below_alloc | apply pw_below_drewN | apply below_drew1) | exact HB.out))))⟩)); clear HB; have HB := n0_; have GW141 := n1_; have GE141 := n2_; have HI141 := n3_; clear n0_ n1_ n2_ n3_; clear hb hbox hg; obtain ⟨HGz13, hgz13⟩ := HI141.out; have hcz13_0 := cellS90_0 HGz13; have hfz13_0 := blk_frozen HGz13 0; clear HGz13 hgz13) | ((with_reducible refine gate_callee (f := 59) rfl ?_); refine goesL_ (some 23) rfl rfl Tryz.func59 (by kernel_rfl) rfl #[.pointer (some ⟨gb141, 0, none⟩)] rfl (by (try simp only [List.map_toArray, List.map_cons, List.map_nil]); first | done | rfl | (simp only [List.length_drop, List.length_take]; rfl)) ?_; (with_reducible refine (media_Text_Params.calls k gb141 (a0.extract (max ji3 0).toNat a0.size) t142 true t146 w _ ?side1 ?side2 A8.out).mono ?_); (case side1 => repeat (first | (with_reducible first | exact HI141.out | apply IsS90.alloc | apply IsS90.drewN | apply IsS90.drew | apply IsS90.set_0) | exact HI141.out)); (case side2 => repeat (first | (with_reducible first | exact HB.out | apply below_alloc | apply pw_below_drewN | apply below_drew1 | refine below_set ?_ (IsS90.ge HI141.out)) | exact HB.out)); rintro e w14 ⟨v143, rfl, ho0, hi, hb, hk⟩; refine ⟨_, rfl, ?_⟩; have n0_ := Aside0.mk (Kd.R_lower ho0 (below_size (by repeat (first | (with_reducible first | exact HB.out | apply below_alloc | apply pw_below_drewN | apply below_drew1 | refine below_set ?_ (IsS90.ge HI141.out)) | exact HB.out)))); have n1_ := Aside0.mk (hb); have n2_ := Aside0.mk (hi); clear HB; clear HI141; have HO144 := n0_; have HB := n1_; have HI141 := n2_; clear n0_ n1_ n2_; (try clear hb); (try clear hb2); (try clear hk); (try clear hi); (try clear ho0)) | ((with_reducible refine gate_callee (f := 47) rfl ?_); refine goesL_ (some 28) rfl rfl Tryz.func47 (by kernel_rfl) rfl #[.string (a0.extract 0 ((ji3) : Int).toNat), .int .i64 16, .int .i64 64] rfl (by (try simp only [List.map_toArray, List.map_cons, List.map_nil]); first | done | (simp only [hji3]; rfl) | rfl | (simp only [List.length_drop, List.length_take]; rfl)) ?_; (with_reducible refine (strconv_ParseUint.calls (a0.extract 0 ((ji3) : Int).toNat) 16 64 t147 none _ ?side1 A9.out).mono ?_); (case side1 => exact Glob.below hGA.out (by repeat (first | (with_reducible first | exact HB.out | apply below_alloc | apply pw_below_drewN | apply below_drew1 | refine below_set ?_ (IsS90.ge HI141.out)) | exact HB.out))); rintro e w15 ⟨pv16, hpv16, rfl, hb⟩; refine ⟨_, rfl, ?_⟩; obtain rfl := ErrIs.none_ hpv16; have n0_ := Aside0.mk (Kd.R_below (by (with_reducible repeat (first | apply Kd.R_alloc | apply Kd.R_drewN | apply Kd.R_drew)); exact HO144.out) hb); have n1_ := Aside0.mk (IsS90.below (by repeat (first | (with_reducible first | exact HI141.out | apply IsS90.alloc | apply IsS90.drewN | apply IsS90.drew | apply IsS90.set_0) | exact HI141.out)) hb); have n2_ := Aside0.mk (below_step (by repeat (first | (with_reducible first | exact HB.out | apply below_alloc | apply pw_below_drewN | apply below_drew1 | refine below_set ?_ (IsS90.ge HI141.out)) | exact HB.out)) hb); clear HO144; clear HI141; clear HB; have HO144 := n0_; have HI141 := n1_; have HB := n2_; clear n0_ n1_ n2_; (try clear hb); (try clear hb2); (try clear hk); (try clear hi); (try simp only [errW_none, errW_some])))
              go_ret2
              exact ⟨by first | rfl | (rw [e81.out]; rfl) | (rw [e81.out]; simp; done) | (simp [errW_none, errW_some, bne_nil_] <;> rfl) | (simp only [← hji3]; first | rfl | (simp [errW_none, errW_some, bne_nil_] <;> rfl)) | (simp [*, errW_none, errW_some] <;> rfl), by repeat (first | (with_reducible first | exact HB.out | apply below_alloc | apply pw_below_drewN | apply below_drew1 | refine below_set ?_ (IsS90.ge HI141.out)) | exact HB.out)⟩
            · replace c10 := Bool.eq_false_iff.mpr c10
              subst c10
              have H1 : (some (wrap64 (t147), false)) = some (r1, r2) := by rw [if_neg (show ¬ (false = true) by decide)] at H; exact H
              clear H
              have H := H1
              clear H1
              simp only [Option.some.injEq, Prod.mk.injEq] at H
              obtain ⟨rfl, rfl⟩ := H
              go_enter Tryz.func32, Tryz.ntmps32
              go_wp2_with (first | ((with_reducible refine gate_callee (f := 58) rfl ?_); refine goesL_ (some 14) rfl rfl Tryz.func58 (by kernel_rfl) rfl #[.string a0, .string (⟨#[48, 49, 50, 51, 52, 53, 54, 55, 56, 57, 97, 98, 99, 100, 101, 102, 65, 66, 67, 68, 69, 70]⟩ : ByteArray)] rfl (by (try simp only [List.map_toArray, List.map_cons, List.map_nil]); first | done | rfl | (simp only [List.length_drop, List.length_take]; rfl)) ?_; (with_reducible refine (strings_TrimLeft.calls a0 (⟨#[48, 49, 50, 51, 52, 53, 54, 55, 56, 57, 97, 98, 99, 100, 101, 102, 65, 66, 67, 68, 69, 70]⟩ : ByteArray) t140 _ A2.out).mono ?_); rintro e w17 ⟨rfl, hb⟩; refine ⟨_, rfl, ?_⟩; have n0_ := Aside0.mk (below_step (by repeat (first | (with_reducible first | exact HB.out | apply below_alloc | apply pw_below_drewN | apply below_drew1) | exact HB.out)) hb); clear HB; have HB := n0_; clear n0_; (try clear hb); (try clear hb2); (try clear hk); (try clear hi)) | ((with_reducible refine gate_dst (N := 5) rfl ?_); (try (refine gate_guard (by rfl) ?_; dsimp only)); refine box_event ?hg (N := 5) ?hd (cs := #[.string (⟨#[]⟩ : ByteArray)]) (t := 90) ?hr ?_; (case hd => rfl); (case hg => rfl); (case hr => first | (go_simp; done) | (go_simp; rfl)); intro gb141 hg w18 hbox hb; have n0_ := Aside0.mk (below_step (by repeat (first | (with_reducible first | exact HB.out | apply below_alloc | apply pw_below_drewN | apply below_drew1) | exact HB.out)) hb); have n1_ := Aside0.mk ((by rw [hg]; exact (below_size (by repeat (first | (with_reducible first | exact HB.out | apply below_alloc | apply pw_below_drewN | apply below_drew1) | exact HB.out))) : w.heap.size ≤ gb141)); have n2_ := Aside0.mk ((by rw [hg]; exact (below_size (by repeat (first | (with_reducible first | exact HB.out | apply below_alloc | apply pw_below_drewN | apply below_drew1) | exact HB.out))) : w.heap.size ≤ gb141)); have n3_ := Aside0.mk ((show IsS90 w w18 gb141 (⟨#[]⟩ : ByteArray) from ⟨hbox, (by rw [hg]; exact (below_size (by repeat (first | (with_reducible first | exact HB.out | apply below_alloc | apply pw_below_drewN | apply below_drew1) | exact HB.out))))⟩)); clear HB; have HB := n0_; have GW141 := n1_; have GE141 := n2_; have HI141 := n3_; clear n0_ n1_ n2_ n3_; clear hb hbox hg; obtain ⟨HGz19, hgz19⟩ := HI141.out; have hcz19_0 := cellS90_0 HGz19; have hfz19_0 := blk_frozen HGz19 0; clear HGz19 hgz19) | ((with_reducible refine gate_callee (f := 59) rfl ?_); refine goesL_ (some 23) rfl rfl Tryz.func59 (by kernel_rfl) rfl #[.pointer (some ⟨gb141, 0, none⟩)] rfl (by (try simp only [List.map_toArray, List.map_cons, List.map_nil]); first | done | rfl | (simp only [List.length_drop, List.length_take]; rfl)) ?_; (with_reducible refine (media_Text_Params.calls k gb141 (a0.extract (max ji3 0).toNat a0.size) t142 false t146 w _ ?side1 ?side2 A8.out).mono ?_); (case side1 => repeat (first | (with_reducible first | exact HI141.out | apply IsS90.alloc | apply IsS90.drewN | apply IsS90.drew | apply IsS90.set_0) | exact HI141.out)); (case side2 => repeat (first | (with_reducible first | exact HB.out | apply below_alloc | apply pw_below_drewN | apply below_drew1 | refine below_set ?_ (IsS90.ge HI141.out)) | exact HB.out)); rintro e w20 ⟨v143, rfl, ho0, hi, hb, hk⟩; refine ⟨_, rfl, ?_⟩; have n0_ := Aside0.mk (Kd.R_lower ho0 (below_size (by repeat (first | (with_reducible first | exact HB.out | apply below_alloc | apply pw_below_drewN | apply below_drew1 | refine below_set ?_ (IsS90.ge HI141.out)) | exact HB.out)))); have n1_ := Aside0.mk (hb); have n2_ := Aside0.mk (hi); clear HB; clear HI141; have HO144 := n0_; have HB := n1_; have HI141 := n2_; clear n0_ n1_ n2_; (try clear hb); (try clear hb2); (try clear hk); (try clear hi); (try clear ho0)) | ((with_reducible refine gate_callee (f := 47) rfl ?_); refine goesL_ (some 28) rfl rfl Tryz.func47 (by kernel_rfl) rfl #[.string (a0.extract 0 ((ji3) : Int).toNat), .int .i64 16, .int .i64 64] rfl (by (try simp only [List.map_toArray, List.map_cons, List.map_nil]); first | done | (simp only [hji3]; rfl) | rfl | (simp only [List.length_drop, List.length_take]; rfl)) ?_; (with_reducible refine (strconv_ParseUint.calls (a0.extract 0 ((ji3) : Int).toNat) 16 64 t147 none _ ?side1 A9.out).mono ?_); (case side1 => exact Glob.below hGA.out (by repeat (first | (with_reducible first | exact HB.out | apply below_alloc | apply pw_below_drewN | apply below_drew1 | refine below_set ?_ (IsS90.ge HI141.out)) | exact HB.out))); rintro e w21 ⟨pv22, hpv22, rfl, hb⟩; refine ⟨_, rfl, ?_⟩; obtain rfl := ErrIs.none_ hpv22; have n0_ := Aside0.mk (Kd.R_below (by (with_reducible repeat (first | apply Kd.R_alloc | apply Kd.R_drewN | apply Kd.R_drew)); exact HO144.out) hb); have n1_ := Aside0.mk (IsS90.below (by repeat (first | (with_reducible first | exact HI141.out | apply IsS90.alloc | apply IsS90.drewN | apply IsS90.drew | apply IsS90.set_0) | exact HI141.out)) hb); have n2_ := Aside0.mk (below_step (by repeat (first | (with_reducible first | exact HB.out | apply below_alloc | apply pw_below_drewN | apply below_drew1 | refine below_set ?_ (IsS90.ge HI141.out)) | exact HB.out)) hb); clear HO144; clear HI141; clear HB; have HO144 := n0_; have HI141 := n1_; have HB := n2_; clear n0_ n1_ n2_; (try clear hb); (try clear hb2); (try clear hk); (try clear hi); (try simp only [errW_none, errW_some])))
              go_ret2
              exact ⟨by first | rfl | (rw [e81.out]; rfl) | (rw [e81.out]; simp; done) | (simp [errW_none, errW_some, bne_nil_] <;> rfl) | (simp only [← hji3]; first | rfl | (simp [errW_none, errW_some, bne_nil_] <;> rfl)) | (simp [*, errW_none, errW_some] <;> rfl), by repeat (first | (with_reducible first | exact HB.out | apply below_alloc | apply pw_below_drewN | apply below_drew1 | refine below_set ?_ (IsS90.ge HI141.out)) | exact HB.out)⟩
          · have H1 : (if t145 = true then (some (wrap64 (t147), false)) else (some (wrap64 (t147), false))) = some (r1, r2) := by rw [if_neg (show ¬ (some q149).isNone = true by simp)] at H; exact H
            clear H
            have H := H1
            clear H1
            try simp only [errW_none, errW_some]
            by_cases c23 : t145 = true
            · subst c23
              have H1 : (some (wrap64 (t147), false)) = some (r1, r2) := by rw [if_pos rfl] at H; exact H
              clear H
              have H := H1
              clear H1
              simp only [Option.some.injEq, Prod.mk.injEq] at H
              obtain ⟨rfl, rfl⟩ := H
              go_enter Tryz.func32, Tryz.ntmps32
              go_wp2_with (first | ((with_reducible refine gate_callee (f := 58) rfl ?_); refine goesL_ (some 14) rfl rfl Tryz.func58 (by kernel_rfl) rfl #[.string a0, .string (⟨#[48, 49, 50, 51, 52, 53, 54, 55, 56, 57, 97, 98, 99, 100, 101, 102, 65, 66, 67, 68, 69, 70]⟩ : ByteArray)] rfl (by (try simp only [List.map_toArray, List.map_cons, List.map_nil]); first | done | rfl | (simp only [List.length_drop, List.length_take]; rfl)) ?_; (with_reducible refine (strings_TrimLeft.calls a0 (⟨#[48, 49, 50, 51, 52, 53, 54, 55, 56, 57, 97, 98, 99, 100, 101, 102, 65, 66, 67, 68, 69, 70]⟩ : ByteArray) t140 _ A2.out).mono ?_); rintro e w24 ⟨rfl, hb⟩; refine ⟨_, rfl, ?_⟩; have n0_ := Aside0.mk (below_step (by repeat (first | (with_reducible first | exact HB.out | apply below_alloc | apply pw_below_drewN | apply below_drew1) | exact HB.out)) hb); clear HB; have HB := n0_; clear n0_; (try clear hb); (try clear hb2); (try clear hk); (try clear hi)) | ((with_reducible refine gate_dst (N := 5) rfl ?_); (try (refine gate_guard (by rfl) ?_; dsimp only)); refine box_event ?hg (N := 5) ?hd (cs := #[.string (⟨#[]⟩ : ByteArray)]) (t := 90) ?hr ?_; (case hd => rfl); (case hg => rfl); (case hr => first | (go_simp; done) | (go_simp; rfl)); intro gb141 hg w25 hbox hb; have n0_ := Aside0.mk (below_step (by repeat (first | (with_reducible first | exact HB.out | apply below_alloc | apply pw_below_drewN | apply below_drew1) | exact HB.out)) hb); have n1_ := Aside0.mk ((by rw [hg]; exact (below_size (by repeat (first | (with_reducible first | exact HB.out | apply below_alloc | apply pw_below_drewN | apply below_drew1) | exact HB.out))) : w.heap.size ≤ gb141)); have n2_ := Aside0.mk ((by rw [hg]; exact (below_size (by repeat (first | (with_reducible first | exact HB.out | apply below_alloc | apply pw_below_drewN | apply below_drew1) | exact HB.out))) : w.heap.size ≤ gb141)); have n3_ := Aside0.mk ((show IsS90 w w25 gb141 (⟨#[]⟩ : ByteArray) from ⟨hbox, (by rw [hg]; exact (below_size (by repeat (first | (with_reducible first | exact HB.out | apply below_alloc | apply pw_below_drewN | apply below_drew1) | exact HB.out))))⟩)); clear HB; have HB := n0_; have GW141 := n1_; have GE141 := n2_; have HI141 := n3_; clear n0_ n1_ n2_ n3_; clear hb hbox hg; obtain ⟨HGz26, hgz26⟩ := HI141.out; have hcz26_0 := cellS90_0 HGz26; have hfz26_0 := blk_frozen HGz26 0; clear HGz26 hgz26) | ((with_reducible refine gate_callee (f := 59) rfl ?_); refine goesL_ (some 23) rfl rfl Tryz.func59 (by kernel_rfl) rfl #[.pointer (some ⟨gb141, 0, none⟩)] rfl (by (try simp only [List.map_toArray, List.map_cons, List.map_nil]); first | done | rfl | (simp only [List.length_drop, List.length_take]; rfl)) ?_; (with_reducible refine (media_Text_Params.calls k gb141 (a0.extract (max ji3 0).toNat a0.size) t142 true t146 w _ ?side1 ?side2 A8.out).mono ?_); (case side1 => repeat (first | (with_reducible first | exact HI141.out | apply IsS90.alloc | apply IsS90.drewN | apply IsS90.drew | apply IsS90.set_0) | exact HI141.out)); (case side2 => repeat (first | (with_reducible first | exact HB.out | apply below_alloc | apply pw_below_drewN | apply below_drew1 | refine below_set ?_ (IsS90.ge HI141.out)) | exact HB.out)); rintro e w27 ⟨v143, rfl, ho0, hi, hb, hk⟩; refine ⟨_, rfl, ?_⟩; have n0_ := Aside0.mk (Kd.R_lower ho0 (below_size (by repeat (first | (with_reducible first | exact HB.out | apply below_alloc | apply pw_below_drewN | apply below_drew1 | refine below_set ?_ (IsS90.ge HI141.out)) | exact HB.out)))); have n1_ := Aside0.mk (hb); have n2_ := Aside0.mk (hi); clear HB; clear HI141; have HO144 := n0_; have HB := n1_; have HI141 := n2_; clear n0_ n1_ n2_; (try clear hb); (try clear hb2); (try clear hk); (try clear hi); (try clear ho0)) | ((with_reducible refine gate_callee (f := 47) rfl ?_); refine goesL_ (some 28) rfl rfl Tryz.func47 (by kernel_rfl) rfl #[.string (a0.extract 0 ((ji3) : Int).toNat), .int .i64 16, .int .i64 64] rfl (by (try simp only [List.map_toArray, List.map_cons, List.map_nil]); first | done | (simp only [hji3]; rfl) | rfl | (simp only [List.length_drop, List.length_take]; rfl)) ?_; (with_reducible refine (strconv_ParseUint.calls (a0.extract 0 ((ji3) : Int).toNat) 16 64 t147 (some q149) _ ?side1 A9.out).mono ?_); (case side1 => exact Glob.below hGA.out (by repeat (first | (with_reducible first | exact HB.out | apply below_alloc | apply pw_below_drewN | apply below_drew1 | refine below_set ?_ (IsS90.ge HI141.out)) | exact HB.out))); rintro e w28 ⟨pv29, hpv29, rfl, hb⟩; refine ⟨_, rfl, ?_⟩; obtain ⟨tpv29, ppv29, rfl⟩ := ErrIs.some_ hpv29; have n0_ := Aside0.mk (Kd.R_below (by (with_reducible repeat (first | apply Kd.R_alloc | apply Kd.R_drewN | apply Kd.R_drew)); exact HO144.out) hb); have n1_ := Aside0.mk (IsS90.below (by repeat (first | (with_reducible first | exact HI141.out | apply IsS90.alloc | apply IsS90.drewN | apply IsS90.drew | apply IsS90.set_0) | exact HI141.out)) hb); have n2_ := Aside0.mk (below_step (by repeat (first | (with_reducible first | exact HB.out | apply below_alloc | apply pw_below_drewN | apply below_drew1 | refine below_set ?_ (IsS90.ge HI141.out)) | exact HB.out)) hb); clear HO144; clear HI141; clear HB; have HO144 := n0_; have HI141 := n1_; have HB := n2_; clear n0_ n1_ n2_; (try clear hb); (try clear hb2); (try clear hk); (try clear hi); (try simp only [errW_none, errW_some])))
              go_ret2
              exact ⟨by first | rfl | (rw [e81.out]; rfl) | (rw [e81.out]; simp; done) | (simp [errW_none, errW_some, bne_nil_] <;> rfl) | (simp only [← hji3]; first | rfl | (simp [errW_none, errW_some, bne_nil_] <;> rfl)) | (simp [*, errW_none, errW_some] <;> rfl), by repeat (first | (with_reducible first | exact HB.out | apply below_alloc | apply pw_below_drewN | apply below_drew1 | refine below_set ?_ (IsS90.ge HI141.out)) | exact HB.out)⟩
            · replace c23 := Bool.eq_false_iff.mpr c23
              subst c23
              have H1 : (some (wrap64 (t147), false)) = some (r1, r2) := by rw [if_neg (show ¬ (false = true) by decide)] at H; exact H
              clear H
              have H := H1
              clear H1
              simp only [Option.some.injEq, Prod.mk.injEq] at H
              obtain ⟨rfl, rfl⟩ := H
              go_enter Tryz.func32, Tryz.ntmps32
              go_wp2_with (first | ((with_reducible refine gate_callee (f := 58) rfl ?_); refine goesL_ (some 14) rfl rfl Tryz.func58 (by kernel_rfl) rfl #[.string a0, .string (⟨#[48, 49, 50, 51, 52, 53, 54, 55, 56, 57, 97, 98, 99, 100, 101, 102, 65, 66, 67, 68, 69, 70]⟩ : ByteArray)] rfl (by (try simp only [List.map_toArray, List.map_cons, List.map_nil]); first | done | rfl | (simp only [List.length_drop, List.length_take]; rfl)) ?_; (with_reducible refine (strings_TrimLeft.calls a0 (⟨#[48, 49, 50, 51, 52, 53, 54, 55, 56, 57, 97, 98, 99, 100, 101, 102, 65, 66, 67, 68, 69, 70]⟩ : ByteArray) t140 _ A2.out).mono ?_); rintro e w30 ⟨rfl, hb⟩; refine ⟨_, rfl, ?_⟩; have n0_ := Aside0.mk (below_step (by repeat (first | (with_reducible first | exact HB.out | apply below_alloc | apply pw_below_drewN | apply below_drew1) | exact HB.out)) hb); clear HB; have HB := n0_; clear n0_; (try clear hb); (try clear hb2); (try clear hk); (try clear hi)) | ((with_reducible refine gate_dst (N := 5) rfl ?_); (try (refine gate_guard (by rfl) ?_; dsimp only)); refine box_event ?hg (N := 5) ?hd (cs := #[.string (⟨#[]⟩ : ByteArray)]) (t := 90) ?hr ?_; (case hd => rfl); (case hg => rfl); (case hr => first | (go_simp; done) | (go_simp; rfl)); intro gb141 hg w31 hbox hb; have n0_ := Aside0.mk (below_step (by repeat (first | (with_reducible first | exact HB.out | apply below_alloc | apply pw_below_drewN | apply below_drew1) | exact HB.out)) hb); have n1_ := Aside0.mk ((by rw [hg]; exact (below_size (by repeat (first | (with_reducible first | exact HB.out | apply below_alloc | apply pw_below_drewN | apply below_drew1) | exact HB.out))) : w.heap.size ≤ gb141)); have n2_ := Aside0.mk ((by rw [hg]; exact (below_size (by repeat (first | (with_reducible first | exact HB.out | apply below_alloc | apply pw_below_drewN | apply below_drew1) | exact HB.out))) : w.heap.size ≤ gb141)); have n3_ := Aside0.mk ((show IsS90 w w31 gb141 (⟨#[]⟩ : ByteArray) from ⟨hbox, (by rw [hg]; exact (below_size (by repeat (first | (with_reducible first | exact HB.out | apply below_alloc | apply pw_below_drewN | apply below_drew1) | exact HB.out))))⟩)); clear HB; have HB := n0_; have GW141 := n1_; have GE141 := n2_; have HI141 := n3_; clear n0_ n1_ n2_ n3_; clear hb hbox hg; obtain ⟨HGz32, hgz32⟩ := HI141.out; have hcz32_0 := cellS90_0 HGz32; have hfz32_0 := blk_frozen HGz32 0; clear HGz32 hgz32) | ((with_reducible refine gate_callee (f := 59) rfl ?_); refine goesL_ (some 23) rfl rfl Tryz.func59 (by kernel_rfl) rfl #[.pointer (some ⟨gb141, 0, none⟩)] rfl (by (try simp only [List.map_toArray, List.map_cons, List.map_nil]); first | done | rfl | (simp only [List.length_drop, List.length_take]; rfl)) ?_; (with_reducible refine (media_Text_Params.calls k gb141 (a0.extract (max ji3 0).toNat a0.size) t142 false t146 w _ ?side1 ?side2 A8.out).mono ?_); (case side1 => repeat (first | (with_reducible first | exact HI141.out | apply IsS90.alloc | apply IsS90.drewN | apply IsS90.drew | apply IsS90.set_0) | exact HI141.out)); (case side2 => repeat (first | (with_reducible first | exact HB.out | apply below_alloc | apply pw_below_drewN | apply below_drew1 | refine below_set ?_ (IsS90.ge HI141.out)) | exact HB.out)); rintro e w33 ⟨v143, rfl, ho0, hi, hb, hk⟩; refine ⟨_, rfl, ?_⟩; have n0_ := Aside0.mk (Kd.R_lower ho0 (below_size (by repeat (first | (with_reducible first | exact HB.out | apply below_alloc | apply pw_below_drewN | apply below_drew1 | refine below_set ?_ (IsS90.ge HI141.out)) | exact HB.out)))); have n1_ := Aside0.mk (hb); have n2_ := Aside0.mk (hi); clear HB; clear HI141; have HO144 := n0_; have HB := n1_; have HI141 := n2_; clear n0_ n1_ n2_; (try clear hb); (try clear hb2); (try clear hk); (try clear hi); (try clear ho0)) | ((with_reducible refine gate_callee (f := 47) rfl ?_); refine goesL_ (some 28) rfl rfl Tryz.func47 (by kernel_rfl) rfl #[.string (a0.extract 0 ((ji3) : Int).toNat), .int .i64 16, .int .i64 64] rfl (by (try simp only [List.map_toArray, List.map_cons, List.map_nil]); first | done | (simp only [hji3]; rfl) | rfl | (simp only [List.length_drop, List.length_take]; rfl)) ?_; (with_reducible refine (strconv_ParseUint.calls (a0.extract 0 ((ji3) : Int).toNat) 16 64 t147 (some q149) _ ?side1 A9.out).mono ?_); (case side1 => exact Glob.below hGA.out (by repeat (first | (with_reducible first | exact HB.out | apply below_alloc | apply pw_below_drewN | apply below_drew1 | refine below_set ?_ (IsS90.ge HI141.out)) | exact HB.out))); rintro e w34 ⟨pv35, hpv35, rfl, hb⟩; refine ⟨_, rfl, ?_⟩; obtain ⟨tpv35, ppv35, rfl⟩ := ErrIs.some_ hpv35; have n0_ := Aside0.mk (Kd.R_below (by (with_reducible repeat (first | apply Kd.R_alloc | apply Kd.R_drewN | apply Kd.R_drew)); exact HO144.out) hb); have n1_ := Aside0.mk (IsS90.below (by repeat (first | (with_reducible first | exact HI141.out | apply IsS90.alloc | apply IsS90.drewN | apply IsS90.drew | apply IsS90.set_0) | exact HI141.out)) hb); have n2_ := Aside0.mk (below_step (by repeat (first | (with_reducible first | exact HB.out | apply below_alloc | apply pw_below_drewN | apply below_drew1 | refine below_set ?_ (IsS90.ge HI141.out)) | exact HB.out)) hb); clear HO144; clear HI141; clear HB; have HO144 := n0_; have HI141 := n1_; have HB := n2_; clear n0_ n1_ n2_; (try clear hb); (try clear hb2); (try clear hk); (try clear hi); (try simp only [errW_none, errW_some])))
              go_ret2
              exact ⟨by first | rfl | (rw [e81.out]; rfl) | (rw [e81.out]; simp; done) | (simp [errW_none, errW_some, bne_nil_] <;> rfl) | (simp only [← hji3]; first | rfl | (simp [errW_none, errW_some, bne_nil_] <;> rfl)) | (simp [*, errW_none, errW_some] <;> rfl), by repeat (first | (with_reducible first | exact HB.out | apply below_alloc | apply pw_below_drewN | apply below_drew1 | refine below_set ?_ (IsS90.ge HI141.out)) | exact HB.out)⟩
        · rw [if_neg c7] at H
          exact absurd H (by simp)
      · rw [if_neg c6] at H
        exact absurd H (by simp)
    · rw [if_neg c5] at H
      exact absurd H (by simp)
  · rw [if_neg c4] at H
    exact absurd H (by simp)

end Go.Proofs.YteonhdfjfjpbjaaGreatDoor.P

/- Px13 -/
namespace Go.Proofs.YteonhdfjfjpbjaaGreatDoor.P
open Go.Proofs.YteonhdfjfjpbjaaGreatDoor.B
open Go.RowKit Go.Proofs.YteonhdfjfjpbjaaGreatDoorW.PrintWords Go.Proofs.YteonhdfjfjpbjaaGreatDoorW.PrintLast Go.Proofs.YteonhdfjfjpbjaaGreatDoorW.PrintMore
attribute [local go_sem] str_leq str_gtr str_geq max2_int min2_int max_two min_two max_three min_three max_four min_four   -- for this text's walks alone
set_option linter.unusedVariables false
set_option linter.unusedSimpArgs false

/-! ### chunk_part: function 33 -/
def chunk_part.f (a0 : ByteArray) (a1 : Int) (a2 : Int) : Option (ByteArray × ByteArray × Int) := if a1 > (wrap64 (100000 - a2)) then (some ((⟨#[]⟩ : ByteArray), (⟨#[]⟩ : ByteArray), 2)) else (if (a0.size : Int) < a1 then (some ((⟨#[]⟩ : ByteArray), (⟨#[]⟩ : ByteArray), 190)) else (if 0 ≤ a1 then (if a1 ≤ (a0.size : Int) then ((strings_CutPrefix.f (a0.extract (a1 : Int).toNat a0.size) (⟨#[13, 10]⟩ : ByteArray)).bind fun bt150 => (if bt150.2 = true then (some (a0.extract 0 (a1 : Int).toNat, bt150.1, 0)) else (some ((⟨#[]⟩ : ByteArray), (⟨#[]⟩ : ByteArray), 190)))) else (none)) else (none)))
set_option maxHeartbeats 8000000 in
set_option maxRecDepth 100000 in
theorem chunk_part.calls (a0 : ByteArray) (a1 : Int) (a2 : Int) (r1 : ByteArray) (r2 : ByteArray) (r3 : Int) (w : World) (h : chunk_part.f a0 a1 a2 = some (r1, r2, r3)) :
    Calls Tryz.prog 33 #[.string a0, .int .i64 a1, .int .i64 a2] w fun e w' => e = .returned (.tuple #[.string r1, .string r2, .int .i64 r3]) ∧ Drawn0 w w' := by
  have H : (if a1 > (wrap64 (100000 - a2)) then (some ((⟨#[]⟩ : ByteArray), (⟨#[]⟩ : ByteArray), 2)) else (if (a0.size : Int) < a1 then (some ((⟨#[]⟩ : ByteArray), (⟨#[]⟩ : ByteArray), 190)) else (if 0 ≤ a1 then (if a1 ≤ (a0.size : Int) then ((strings_CutPrefix.f (a0.extract (a1 : Int).toNat a0.size) (⟨#[13, 10]⟩ : ByteArray)).bind fun bt150 => (if bt150.2 = true then (some (a0.extract 0 (a1 : Int).toNat, bt150.1, 0)) else (some ((⟨#[]⟩ : ByteArray), (⟨#[]⟩ : ByteArray), 190)))) else (none)) else (none)))) = some (r1, r2, r3) := h
  clear h
  by_cases c4 : a1 > (wrap64 (100000 - a2))
  · rw [if_pos c4] at H
    have c4b0 : decide ((wrap64 (100000 - a2)) < a1) = true := decide_eq_true c4
    clear c4
    simp only [Option.some.injEq, Prod.mk.injEq] at H
    obtain ⟨rfl, rfl, rfl⟩ := H
    go_enter Tryz.func33, Tryz.ntmps33
    go_wp2
    go_ret3
    exact ⟨by first | rfl | (simp; done) | (simp [*]; done), by repeat (first | exact Drawn0.refl _ | apply Drawn0.step)⟩
  · rw [if_neg c4] at H
    have c4b0 : decide ((wrap64 (100000 - a2)) < a1) = false := decide_eq_false c4
    clear c4
    by_cases c5 : (a0.size : Int) < a1
    · rw [if_pos c5] at H
      have c5b0 : decide ((a0.size : Int) < a1) = true := decide_eq_true c5
      clear c5
      simp only [Option.some.injEq, Prod.mk.injEq] at H
      obtain ⟨rfl, rfl, rfl⟩ := H
      go_enter Tryz.func33, Tryz.ntmps33
      go_wp2
      go_ret3
      exact ⟨by first | rfl | (simp; done) | (simp [*]; done), by repeat (first | exact Drawn0.refl _ | apply Drawn0.step)⟩
    · rw [if_neg c5] at H
      have c5b0 : decide ((a0.size : Int) < a1) = false := decide_eq_false c5
      clear c5
      by_cases c6 : 0 ≤ a1
      · rw [if_pos c6] at H
        have c6b0 := eq_true c6
        have c6b1 : decide (0 ≤ a1) = true := decide_eq_true c6
        clear c6
        by_cases c7 : a1 ≤ (a0.size : Int)
        · rw [if_pos c7] at H
          have c7b0 := eq_true c7
          have c7b1 : decide (a1 ≤ (a0.size : Int)) = true := decide_eq_true c7
          clear c7
          replace H := Option.bind_eq_some_iff.mp H
          obtain ⟨⟨t150, t151⟩, A80, H⟩ := H
          replace H : (if t151 = true then (some (a0.extract 0 (a1 : Int).toNat, t150, 0)) else (some ((⟨#[]⟩ : ByteArray), (⟨#[]⟩ : ByteArray), 190))) = some (r1, r2, r3) := H
          have A8 := Aside0.mk A80
          clear A80
          by_cases c9 : t151 = true
          · subst c9
            have H1 : (some (a0.extract 0 (a1 : Int).toNat, t150, 0)) = some (r1, r2, r3) := by rw [if_pos rfl] at H; exact H
            clear H
            have H := H1
            clear H1
            have c10b0 := eq_true (of_decide_eq_true (by first | (with_reducible assumption) | assumption) : 0 ≤ a1)
            have c11b0 := eq_true (of_decide_eq_true (by first | (with_reducible assumption) | assumption) : a1 ≤ (a0.size : Int))
            simp only [Option.some.injEq, Prod.mk.injEq] at H
            obtain ⟨rfl, rfl, rfl⟩ := H
            go_enter Tryz.func33, Tryz.ntmps33
            go_wp2_with (first | ((with_reducible refine gate_callee (f := 60) rfl ?_); refine goesL_ (some 22) rfl rfl Tryz.func60 (by kernel_rfl) rfl #[.string (a0.extract (a1 : Int).toNat a0.size), .string (⟨#[13, 10]⟩ : ByteArray)] rfl (by (try simp only [List.map_toArray, List.map_cons, List.map_nil]); first | done | rfl | (simp only [List.length_drop, List.length_take]; rfl)) ?_; (with_reducible refine (strings_CutPrefix.calls (a0.extract (a1 : Int).toNat a0.size) (⟨#[13, 10]⟩ : ByteArray) t150 true _ A8.out).mono ?_); rintro e w' ⟨rfl, ⟨nd, rfl⟩⟩; refine ⟨_, rfl, ?_⟩))
            go_ret3
            exact ⟨by first | rfl | (simp; done) | (simp [*]; done), by repeat (first | exact Drawn0.refl _ | apply Drawn0.step)⟩
          · replace c9 := Bool.eq_false_iff.mpr c9
            subst c9
            have H1 : (some ((⟨#[]⟩ : ByteArray), (⟨#[]⟩ : ByteArray), 190)) = some (r1, r2, r3) := by rw [if_neg (show ¬ (false = true) by decide)] at H; exact H
            clear H
            have H := H1
            clear H1
            simp only [Option.some.injEq, Prod.mk.injEq] at H
            obtain ⟨rfl, rfl, rfl⟩ := H
            go_enter Tryz.func33, Tryz.ntmps33
            go_wp2_with (first | ((with_reducible refine gate_callee (f := 60) rfl ?_); refine goesL_ (some 22) rfl rfl Tryz.func60 (by kernel_rfl) rfl #[.string (a0.extract (a1 : Int).toNat a0.size), .string (⟨#[13, 10]⟩ : ByteArray)] rfl (by (try simp only [List.map_toArray, List.map_cons, List.map_nil]); first | done | rfl | (simp only [List.length_drop, List.length_take]; rfl)) ?_; (with_reducible refine (strings_CutPrefix.calls (a0.extract (a1 : Int).toNat a0.size) (⟨#[13, 10]⟩ : ByteArray) t150 false _ A8.out).mono ?_); rintro e w' ⟨rfl, ⟨nd, rfl⟩⟩; refine ⟨_, rfl, ?_⟩))
            go_ret3
            exact ⟨by first | rfl | (simp; done) | (simp [*]; done), by repeat (first | exact Drawn0.refl _ | apply Drawn0.step)⟩
        · rw [if_neg c7] at H
          exact absurd H (by simp)
      · rw [if_neg c6] at H
        exact absurd H (by simp)

end Go.Proofs.YteonhdfjfjpbjaaGreatDoor.P

/- SpA -/
namespace Go.Proofs.YteonhdfjfjpbjaaGreatDoor.Sp
open Go
set_option linter.unusedVariables false
set_option linter.unusedSimpArgs false
abbrev L := List UInt8

/-! ### Bytes -/
def ctl (c : UInt8) : Bool := decide (c.toNat < 32) && !(c == 9) || c == 127
def bl (c : UInt8) : Bool := c == 32 || c == 9
def signs : L := [48, 49, 50, 51, 52, 53, 54, 55, 56, 57, 65, 66, 67, 68, 69, 70, 71, 72, 73, 74, 75, 76, 77, 78, 79, 80, 81, 82, 83, 84, 85, 86, 87, 88, 89, 90, 97, 98, 99, 100, 101, 102, 103, 104, 105, 106, 107, 108, 109, 110, 111, 112, 113, 114, 115, 116, 117, 118, 119, 120, 121, 122, 33, 35, 36, 37, 38, 39, 42, 43, 45, 46, 94, 95, 96, 124, 126]
def tokB (c : UInt8) : Bool := signs.contains c
def lowB (c : UInt8) : UInt8 := if 65 ≤ c.toNat ∧ c.toNat ≤ 90 then UInt8.ofNat (c.toNat + 32) else c
def low (s : L) : L := s.map lowB
def hexV (c : UInt8) : Option Nat := if 48 ≤ c.toNat ∧ c.toNat ≤ 57 then some (c.toNat - 48) else if 65 ≤ c.toNat ∧ c.toNat ≤ 70 then some (c.toNat - 55) else if 97 ≤ c.toNat ∧ c.toNat ≤ 102 then some (c.toNat - 87) else none
def hexB (c : UInt8) : Bool := (hexV c).isSome

/-! ### Tokens, quoted texts, parameters -/
def tok (s : L) : L × L := (s.takeWhile tokB, s.dropWhile tokB)
def skip (s : L) : L := s.dropWhile bl
def quoted : L → Option (L × L)
  | [] => none
  | c :: r => if c = 34 then some ([], r) else if c = 92 then (match r with
      | [] => none
      | d :: r' => if ctl d = true then none else (quoted r').map fun p => (d :: p.1, p.2))
    else if ctl c = true then none else (quoted r).map fun p => (c :: p.1, p.2)
def value (s : L) : Option (L × L) := if s.head? = some 34 then quoted s.tail else if (tok s).1 = [] then none else some (tok s)
def params : Nat → L → Option (List (L × L))
  | 0, _ => none
  | f + 1, s => if skip s = [] then some [] else if (skip s).head? ≠ some 59 then none else
      if (tok (skip (skip s).tail)).1 = [] then none else if (tok (skip (skip s).tail)).2.head? ≠ some 61 then none else
      match value (tok (skip (skip s).tail)).2.tail with
      | none => none
      | some (v, rest) => (params f rest).map ((low (tok (skip (skip s).tail)).1, v) :: ·)
def pars (s : L) : Option (List (L × L)) := params (s.length + 1) s

/-! ### Lines, fields -/
def line : L → Option (L × L)
  | [] => none
  | c :: r => if c = 13 ∧ r.head? = some 10 then some ([], r.tail) else (line r).map fun p => (c :: p.1, p.2)
def trim (s : L) : L := (skip (skip s).reverse).reverse
def fval (s : L) : Bool := s.all (fun c => !ctl c) && decide (trim s = s)
def pairOf (l : L) : Option (L × L) := if (tok l).1 = [] then none else if (tok l).2.head? ≠ some 58 then none else if fval (trim (tok l).2.tail) = true then some (low (tok l).1, trim (tok l).2.tail) else none
/-- The fields, what stands behind them, the error (0: none); N: how long all of it is. -/
def fparse (N : Nat) : Nat → L → List (L × L) → List (L × L) × L × Int
  | 0, _, _ => ([], [], 180)
  | f + 1, s, acc => match line s with
    | none => ([], [], if N > 8000 then 2 else 180)
    | some (l, more) => if N - more.length > 8000 then ([], [], if N > 8000 then 2 else 180) else if l = [] then (acc, more, 0) else match pairOf l with
      | none => ([], [], 180)
      | some p => fparse N f more (acc ++ [p])
def fields (s : L) : List (L × L) × L × Int := fparse s.length (s.length + 1) s []

/-! ### Bodies in parts -/
def hexN (d : L) : Nat := d.foldl (fun n c => n * 16 + (hexV c).getD 0) 0
def csize (l : L) : Option Nat := if l.takeWhile hexB = [] ∨ 8 < (l.takeWhile hexB).length ∨ pars (l.dropWhile hexB) = none then none else some (hexN (l.takeWhile hexB))
/-- The body, what stands behind it, the error. -/
def decode : Nat → L → L → L × L × Int
  | 0, _, _ => ([], [], 190)
  | f + 1, s, acc => match line s with
    | none => ([], [], 190)
    | some (l, more) => match csize l with
      | none => ([], [], 190)
      | some n => if n = 0 then (if (fields more).2.2 = 0 then (acc, (fields more).2.1, 0) else ([], [], 190))
        else if n + acc.length > 100000 then ([], [], 2)
        else if more.length < n then ([], [], 190)
        else if (more.drop n).take 2 ≠ [13, 10] then ([], [], 190)
        else decode f (more.drop (n + 2)) (acc ++ more.take n)
def dec (s : L) : L × L × Int := decode (s.length + 1) s []
def hexC (n : Nat) : UInt8 := if n < 10 then UInt8.ofNat (48 + n) else UInt8.ofNat (87 + n)
def hexD (n : Nat) : L := if h : n < 16 then [hexC n] else hexD (n / 16) ++ [hexC (n % 16)]
termination_by n
decreasing_by omega
def encode : Nat → L → Nat → L
  | 0, _, _ => []
  | f + 1, s, n => if s = [] then [48, 13, 10, 13, 10] else hexD (min n s.length) ++ [13, 10] ++ s.take n ++ [13, 10] ++ encode f (s.drop n) n
def enc (s : L) (n : Nat) : L := encode (s.length + 1) s n

/-! ### Their laws -/
theorem line_len : ∀ (s : L) (p : L × L), line s = some p → s = p.1 ++ 13 :: 10 :: p.2
  | [], _, h => by simp [line] at h
  | c :: r, p, h => by
    unfold line at h
    split at h
    · rename_i hc
      obtain ⟨rfl, h2⟩ := hc
      obtain rfl := Option.some.inj h
      cases r with
      | nil => simp at h2
      | cons d r => simp at h2; subst h2; rfl
    · cases e : line r with
      | none => rw [e] at h; simp at h
      | some q =>
        rw [e] at h
        simp at h
        subst h
        have := line_len r q e
        simp [this]
theorem line_app : ∀ (a b : L), (∀ x y, ¬ (a = x ++ 13 :: 10 :: y)) → (a.getLast? ≠ some 13) → line (a ++ 13 :: 10 :: b) = some (a, b)
  | [], b, _, _ => by simp [line]
  | c :: r, b, h, hl => by
    have hr : ∀ x y, ¬ (r = x ++ 13 :: 10 :: y) := fun x y e => h (c :: x) y (by simp [e])
    rw [List.cons_append, line, if_neg]
    · rw [line_app r b hr (by
        cases r with
        | nil => simp
        | cons d r => rw [List.getLast?_cons_cons] at hl; exact hl)]
      rfl
    · rintro ⟨rfl, h2⟩
      cases r with
      | nil => simp at hl
      | cons d r =>
        simp at h2
        subst h2
        exact h [] r rfl
/-- A text without 13 has no line. -/
theorem line_no : ∀ (a : L), 13 ∉ a → line a = none
  | [], _ => rfl
  | c :: r, h => by
    rw [line, if_neg (by rintro ⟨rfl, _⟩; simp at h), line_no r (fun e => h (by simp [e]))]
    rfl
end Go.Proofs.YteonhdfjfjpbjaaGreatDoor.Sp

/- Orng -/
namespace Go.Proofs.YteonhdfjfjpbjaaGreatDoor.O
open Go.RowKit Go.Shelf
attribute [local go_sem] Oper.semAt_some
set_option linter.unusedVariables false
set_option linter.unusedSimpArgs false

/-! ### The first line of a text, and what the library's cut gives -/
def lineB (s : ByteArray) : Option (ByteArray × ByteArray) := (Sp.line s.data.toList).map fun p => (⟨p.1.toArray⟩, ⟨p.2.toArray⟩)
theorem index2 (c : UInt8) (r : List UInt8) : Lib.index (c :: r) [13, 10] = if c = 13 ∧ r.head? = some 10 then 0 else if Lib.index r [13, 10] == -1 then -1 else Lib.index r [13, 10] + 1 := by
  cases r with
  | nil => by_cases h : c = 13 <;> simp [Lib.index, List.isPrefixOf, h]
  | cons d r =>
    by_cases h : c = 13 ∧ d = 10
    · obtain ⟨rfl, rfl⟩ := h
      simp [Lib.index, List.isPrefixOf]
    · have h' : ((13 == c) && ((10 == d) && true)) = false := by
        rw [Bool.eq_false_iff]
        intro e
        simp only [Bool.and_eq_true, beq_iff_eq, and_true] at e
        exact h ⟨e.1.symm, e.2.symm⟩
      have h2 : ¬ (c = 13 ∧ (d :: r).head? = some 10) := by simpa using fun e1 e2 => h ⟨e1, e2⟩
      rw [if_neg h2, Lib.index]
      have h3 : ([13, 10] : List UInt8).isPrefixOf (c :: d :: r) = false := by
        simp only [List.isPrefixOf]
        exact h'
      rw [h3, if_neg (by decide)]
theorem index_line : ∀ s : List UInt8, (Sp.line s = none ∧ Lib.index s [13, 10] = -1) ∨ (∃ p : List UInt8 × List UInt8, Sp.line s = some p ∧ Lib.index s [13, 10] = p.1.length)
  | [] => .inl ⟨rfl, by simp [Lib.index]⟩
  | c :: r => by
    rw [index2, Sp.line]
    by_cases h : c = 13 ∧ r.head? = some 10
    · rw [if_pos h, if_pos h]
      exact .inr ⟨_, rfl, rfl⟩
    · rw [if_neg h, if_neg h]
      rcases index_line r with ⟨e1, e2⟩ | ⟨p, e1, e2⟩
      · rw [e1, e2]
        exact .inl ⟨rfl, rfl⟩
      · rw [e1, e2]
        have hb : ((p.1.length : Int) == -1) = false := by simp
        rw [hb, if_neg (by decide)]
        exact .inr ⟨_, rfl, by simp⟩
theorem cut_none (s : ByteArray) (h : lineB s = none) : Lib.cut s.data.toList [13, 10] = (s.data.toList, [], false) := by
  rcases index_line s.data.toList with ⟨e1, e2⟩ | ⟨p, e1, e2⟩
  · unfold Lib.cut
    rw [e2, if_neg (by omega)]
  · unfold lineB at h
    rw [e1] at h
    simp at h
theorem cut_some (s x y : ByteArray) (h : lineB s = some (x, y)) : Lib.cut s.data.toList [13, 10] = (x.data.toList, y.data.toList, true) := by
  rcases index_line s.data.toList with ⟨e1, e2⟩ | ⟨p, e1, e2⟩
  · unfold lineB at h
    rw [e1] at h
    simp at h
  · unfold lineB at h
    rw [e1] at h
    simp only [Option.map_some, Option.some.injEq, Prod.mk.injEq] at h
    obtain ⟨rfl, rfl⟩ := h
    have hs := Sp.line_len _ _ e1
    unfold Lib.cut
    rw [e2, if_pos (by omega)]
    have e3 : (p.1 ++ 13 :: 10 :: p.2).drop (p.1.length + 2) = p.2 := by
      rw [← List.drop_drop, List.drop_left' rfl]
      rfl
    have e4 : (p.1 ++ 13 :: 10 :: p.2).take p.1.length = p.1 := List.take_left' rfl
    rw [hs]
    simp only [Int.toNat_natCast, List.length_cons, List.length_nil, e4]
    rw [show p.1.length + (0 + 1 + 1) = p.1.length + 2 by omega, e3]
theorem lineB_size (s x y : ByteArray) (h : lineB s = some (x, y)) : s.size = x.size + y.size + 2 := by
  unfold lineB at h
  cases e : Sp.line s.data.toList with
  | none => rw [e] at h; simp at h
  | some p =>
    rw [e] at h
    simp only [Option.map_some, Option.some.injEq, Prod.mk.injEq] at h
    obtain ⟨rfl, rfl⟩ := h
    have hs := congrArg List.length (Sp.line_len _ _ e)
    simp only [List.length_append, List.length_cons] at hs
    rw [Lib.size_eq, Lib.size_eq, Lib.size_eq]
    show s.data.toList.length = p.1.length + p.2.length + 2
    omega

/-! ### The statement -/
/-- What abides a store into block B, and an answer of the tape. -/
structure Stays (B : Nat) (J : World → Prop) : Prop where
  set : ∀ W v, J W → J (W.setCell ⟨B, 0, none⟩ v)
  drew : ∀ W k, J W → J (W.drewN k)
/-- A function value that hands its caller's rounds the lines of s0, one by one; B: its box. -/
def LinesOf (F : Fence) (n : Nat) (gf : Nat) (lb : Array Value) (B : Nat) (s0 : ByteArray) (w : World) : Prop :=
  ∀ (l : Nat) (J : ByteArray → World → Prop) (Jx : World → Prop) (W : World), Below w.heap.size w W → (∀ c, Stays B (J c)) → (∀ c W, J c W → Glob W) →
    (∀ cur x y W1, J cur W1 → lineB cur = some (x, y) → YieldAt F (n - 1) Tryz.prog l #[.string x, .string y] W1 fun e W' =>
      (e = .returned (.bool true) ∧ J y W' ∧ W'.heap[B]? = W1.heap[B]?) ∨ (e = .returned (.bool false) ∧ Jx W')) →
    J s0 W →
    CallsIn F n Tryz.prog gf (#[.func (.yield l) #[] #[]] ++ lb) W fun e W' => (∃ v, e = .returned v) ∧ ((∃ cur, lineB cur = none ∧ J cur W') ∨ Jx W')
/-- How a round's body may be left. -/
def roundEnd (N B : Nat) (I : ByteArray → World → Prop) (Ix : Code → World → Prop) (y : ByteArray) (W : World) : Exit → Act → World → Prop
  | .normal, _, W' => KeepsFrom N W W' ∧ W'.heap[B]? = W.heap[B]? ∧ I y W'
  | .ret, _, W' => KeepsFrom N W W' ∧ Ix .ret W'
  | .exit id, _, W' => KeepsFrom N W W' ∧ Ix (.exit id) W'
  | .goto t, _, W' => KeepsFrom N W W' ∧ Ix (.goto t) W'
  | .panic _, _, _ => False
  | .outgrown, _, _ => False
variable {F : Fence} {n : Nat}
theorem range_lines {g : Operand} {ps : Array Tmp} {assign body : Code} {Q : Exit → Act → World → Prop} {a : Act} {w : World}
    (hro : F.round = none) (h1 : 1 ≤ n) {gf : Nat} {lb : Array Value} (hg : a.eval g = .func (.func gf) #[] lb) (hFg : F.fn gf) (eg : ∀ args w, (callFunc gf args).run Tryz.prog w = .ok (.enter gf args) w)
    {B : Nat} {s0 : ByteArray} (hit : LinesOf F (n - 1) gf lb B s0 w) (hB : B < w.heap.size) (hps : ps.size = 2)
    (I : ByteArray → World → Prop) (Ix : Code → World → Prop) (hI : OwnFrom w.heap.size I) (hIx : OwnFrom w.heap.size Ix) (hIs : ∀ c, Stays B (I c)) (hIG : ∀ c W, I c W → Glob W) (h0 : I s0 w) (a₁ : ByteArray → ByteArray → Act)
    (hassign : ∀ (l : Nat) (x y : ByteArray) (W : World) (K : Act → World → Prop), K (a₁ x y) W →
      assign.wpIn (F.inRound l) (n - 1 - 1) Tryz.prog (Exit.then K (fun _ _ _ => False)) { tmps := (ps.zip #[Value.string x, Value.string y]).foldl (fun t (p, v) => t.setIfInBounds p v) a.tmps, defers := [] } W)
    (hbody : ∀ (l : Nat) (cur x y : ByteArray) (W : World), I cur W → lineB cur = some (x, y) → body.wpIn (F.inRound l) (n - 1 - 1) Tryz.prog (roundEnd w.heap.size B I Ix y W) (a₁ x y) W)
    (hdone : ∀ (D : Nat) (cur : ByteArray) (W : World), w.heap.size ≤ D → lineB cur = none → I cur W → W.heap[D]? = some (.deferred (some [])) → Q .normal { a with defers := { target := .collected D, args := #[] } :: a.defers } W)
    (hstop : ∀ (D : Nat) (c : Code) (W : World), w.heap.size ≤ D → Ix c W → W.heap[D]? = some (.deferred (some [])) → c.wpIn F n Tryz.prog Q { a with defers := { target := .collected D, args := #[] } :: a.defers } W) :
    (Code.rangeFunc g ps assign body).wpIn F n Tryz.prog Q a w := by
  refine wpIn_rangeFunc (fun fn hfn => ?_)
  rw [hro]
  obtain ⟨R, hR⟩ : ∃ R : LoopState → Option Code → Loop, R = fun st pe => { state := st, pending := pe, fn, tmps := a.tmps, params := ps, assign, body, defers := w.heap.size } := ⟨_, rfl⟩
  obtain ⟨V, hV⟩ : ∃ V, V = (w.alloc (.deferred (some []))).alloc (.loop (R .ready none)) := ⟨_, rfl⟩
  have hN : w.heap.size + 1 = (w.alloc (.deferred (some []))).heap.size := (World.size_alloc _ _).symm
  have hL : V.heap[w.heap.size + 1]? = some (.loop (R .ready none)) := by rw [hV, hN]; exact World.alloc_heap_new _ _
  have hD : V.heap[w.heap.size]? = some (.deferred (some [])) := by rw [hV]; exact (Below.heap_alloc _ _ _ (by simp)).trans (World.alloc_heap_new w _)
  have hbel : Below w.heap.size w V := by rw [hV]; exact ((Below.refl _ w).alloc (Nat.le_refl _) _).alloc (by simp) _
  have hI0 : I s0 V := by rw [hV]; exact hI.alloc _ (hI.alloc _ h0)
  refine ⟨w.heap.size + 1, [{ target := .collected w.heap.size, args := #[] }], V, { target := .fn (.func gf) lb, args := #[.func (.yield (w.heap.size + 1)) #[] #[]] }, V, gf, #[.func (.yield (w.heap.size + 1)) #[] #[]] ++ lb, V, ?_, ?_, ?_, ?_, fun _ => h1, ?_⟩
  · rw [hV, hR]; exact run_enterLoop_outer _ _ _ _ _
  · simp only [resolve, hg]
    simp [go_sem]
  · intro f' hf'
    simp [Target.leads] at hf'
    subst hf'
    exact hFg
  · simp [invoke, go_sem, eg]
  refine (hit (w.heap.size + 1) (fun c W => I c W ∧ W.heap[w.heap.size + 1]? = some (.loop (R .ready none)) ∧ W.heap[w.heap.size]? = some (.deferred (some [])))
    (fun W => ∃ c, Ix c W ∧ W.heap[w.heap.size + 1]? = some (.loop (R .done (some c))) ∧ W.heap[w.heap.size]? = some (.deferred (some []))) V hbel
    (fun c => ⟨fun W v h => ⟨(hIs c).set W v h.1, (KeepsOthers.setCell W _ v).same _ _ h.2.1 rfl, (KeepsOthers.setCell W _ v).same _ _ h.2.2 rfl⟩, fun W k h => ⟨(hIs c).drew W k h.1, h.2⟩⟩)
    (fun c W h => hIG c W h.1) ?_ ⟨hI0, hL, hD⟩).mono ?_
  · rintro cur x y W ⟨hi, hl, hk⟩ hline
    have hlt : w.heap.size + 1 < W.heap.size := (Array.getElem?_eq_some_iff.1 hl).1
    have hy := run_yield (P := Tryz.prog) (args := #[.string x, .string y]) hl (by rw [hR]; exact hps.symm)
    rw [hR] at hy
    refine ⟨fn, _, assign, body, hy, roundIn_of_wpIn hfn (hassign _ x y W _ ⟨_, run_beginRound hl (by rw [hR]), ?_⟩)⟩
    have hl2 : (W.putObj (w.heap.size + 1) (.loop { R .ready none with state := .busy })).heap[w.heap.size + 1]? = some (.loop { R .ready none with state := .busy }) := World.putObj_heap_same hlt
    have hk2 : (W.putObj (w.heap.size + 1) (.loop { R .ready none with state := .busy })).heap[w.heap.size]? = some (.deferred (some [])) := (World.putObj_heap_other (by omega)).trans hk
    have hB2 : (W.putObj (w.heap.size + 1) (.loop { R .ready none with state := .busy })).heap[B]? = W.heap[B]? := World.putObj_heap_other (by omega)
    refine wpIn_mono (hbody _ cur x y _ (hI.putObj _ hi (by omega) hl rfl) hline) ?_
    generalize W.putObj (w.heap.size + 1) (.loop { R .ready none with state := .busy }) = W2 at *
    have fin : ∀ (jump : Option Code) (W3 : World), KeepsFrom w.heap.size W2 W3 →
        (Instr.endRound (w.heap.size + 1) jump).run Tryz.prog W3 = .ok (.bool jump.isNone) (W3.putObj (w.heap.size + 1) (.loop (R (if jump.isNone then .ready else .done) jump))) ∧
        W3.heap[w.heap.size + 1]? = some (.loop { R .ready none with state := .busy }) ∧
        (W3.putObj (w.heap.size + 1) (.loop (R (if jump.isNone then .ready else .done) jump))).heap[w.heap.size + 1]? = some (.loop (R (if jump.isNone then .ready else .done) jump)) ∧
        (W3.putObj (w.heap.size + 1) (.loop (R (if jump.isNone then .ready else .done) jump))).heap[w.heap.size]? = some (.deferred (some [])) := fun jump W3 hk3 => by
      have hl3 := hk3.same _ _ (by omega) hl2 rfl
      have he := run_endRound (P := Tryz.prog) jump hl3
      refine ⟨?_, hl3, World.putObj_heap_same (Array.getElem?_eq_some_iff.1 hl3).1, (World.putObj_heap_other (by omega)).trans (hk3.same _ _ (Nat.le_refl _) hk2 rfl)⟩
      rw [he, hR]
    intro e a3 W3 hp
    cases e with
    | normal =>
      obtain ⟨hk3, hb3, hi3⟩ := hp
      obtain ⟨hr, hl3, hl4, hk4⟩ := fin none W3 hk3
      exact ⟨_, _, hr, .inl ⟨rfl, ⟨hI.putObj _ hi3 (by omega) hl3 rfl, hl4, hk4⟩, (World.putObj_heap_other (by omega)).trans (hb3.trans hB2)⟩⟩
    | ret =>
      obtain ⟨hk3, hi3⟩ := hp
      obtain ⟨hr, hl3, hl4, hk4⟩ := fin (some .ret) W3 hk3
      exact ⟨_, _, hr, .inr ⟨rfl, .ret, hIx.putObj _ hi3 (by omega) hl3 rfl, hl4, hk4⟩⟩
    | exit id =>
      obtain ⟨hk3, hi3⟩ := hp
      obtain ⟨hr, hl3, hl4, hk4⟩ := fin (some (.exit id)) W3 hk3
      exact ⟨_, _, hr, .inr ⟨rfl, .exit id, hIx.putObj _ hi3 (by omega) hl3 rfl, hl4, hk4⟩⟩
    | goto t =>
      obtain ⟨hk3, hi3⟩ := hp
      obtain ⟨hr, hl3, hl4, hk4⟩ := fin (some (.goto t)) W3 hk3
      exact ⟨_, _, hr, .inr ⟨rfl, .goto t, hIx.putObj _ hi3 (by omega) hl3 rfl, hl4, hk4⟩⟩
    | panic ch => exact hp.elim
    | outgrown => exact hp.elim
  · rintro e W2 ⟨⟨v, rfl⟩, (⟨cur, hcur, hi, hl, hk⟩ | ⟨c, hi, hl, hk⟩)⟩
    · refine ⟨none, _, ?_, hdone _ cur _ (Nat.le_refl _) hcur (hI.putObj (.loop { R .ready none with state := .exhausted }) hi (by omega) hl rfl) ((World.putObj_heap_other (by omega)).trans hk)⟩
      have := run_endLoop (P := Tryz.prog) hl (by rw [hR]; simp)
      rw [hR] at this ⊢
      exact this
    · refine ⟨some c, _, ?_, hstop _ c _ (Nat.le_refl _) (hIx.putObj (.loop { R .done (some c) with state := .exhausted }) hi (by omega) hl rfl) ((World.putObj_heap_other (by omega)).trans hk)⟩
      have := run_endLoop (P := Tryz.prog) hl (by rw [hR]; simp)
      rw [hR] at this ⊢
      exact this

/-! ### The program's iterator -/
/-- How many bytes are left: what a box holds. -/
def leftIn (B : Nat) (W : World) : Nat := match W.cell? ⟨B, 0, none⟩ with
  | some (.string s) => s.size
  | _ => 0
theorem leftIn_of {B : Nat} {W : World} {s : ByteArray} (h : W.cell? ⟨B, 0, none⟩ = some (.string s)) : leftIn B W = s.size := by unfold leftIn; rw [h]
theorem boxed_of {B : Nat} {W W' : World} (h : W'.heap[B]? = W.heap[B]?) : W'.cell? ⟨B, 0, none⟩ = W.cell? ⟨B, 0, none⟩ := by
  unfold World.cell?
  rw [h]
theorem frozen_of {B : Nat} {W W' : World} (h : W'.heap[B]? = W.heap[B]?) : W'.frozen? ⟨B, 0, none⟩ = W.frozen? ⟨B, 0, none⟩ := by
  unfold World.frozen?
  rw [h]
theorem cut_no (cur : ByteArray) (m : Int) (w : World) (hs : cur.size < 4294967281) (hm : w.cell? ⟨1, 0, none⟩ = some (.int .i64 m)) (h : lineB cur = none) :
    CallsIn Fence.wide n Tryz.prog 31 #[.string cur, .string (⟨#[13, 10]⟩ : ByteArray)] w fun e w' => e = .returned (.tuple #[.string cur, .string ⟨#[]⟩, .bool false]) ∧ ∃ k, w' = w.drewN k := by
  refine callsIn_wide.2 ((Tryz.strings_Cut cur (⟨#[13, 10]⟩ : ByteArray) m w hs hm).mono ?_)
  have e : ((⟨#[13, 10]⟩ : ByteArray).data.toList) = [13, 10] := rfl
  rw [e, cut_none cur h]
  rintro e w' ⟨rfl, k, rfl⟩
  exact ⟨by simp, k, rfl⟩
theorem cut_yes (cur x y : ByteArray) (m : Int) (w : World) (hs : cur.size < 4294967281) (hm : w.cell? ⟨1, 0, none⟩ = some (.int .i64 m)) (h : lineB cur = some (x, y)) :
    CallsIn Fence.wide n Tryz.prog 31 #[.string cur, .string (⟨#[13, 10]⟩ : ByteArray)] w fun e w' => e = .returned (.tuple #[.string x, .string y, .bool true]) ∧ ∃ k, w' = w.drewN k := by
  refine callsIn_wide.2 ((Tryz.strings_Cut cur (⟨#[13, 10]⟩ : ByteArray) m w hs hm).mono ?_)
  have e : ((⟨#[13, 10]⟩ : ByteArray).data.toList) = [13, 10] := rfl
  rw [e, cut_some cur x y h]
  rintro e w' ⟨rfl, k, rfl⟩
  exact ⟨by simp, k, rfl⟩
set_option maxRecDepth 100000 in
set_option maxHeartbeats 4000000 in
theorem lines_stops (n : Nat) (hn : 1 ≤ n) (B : Nat) (s0 : ByteArray) (w : World) (hs : s0.size < 4294967281) (hB : B < w.heap.size) (hbox : Boxed w B 9 (.string s0)) :
    LinesOf Fence.wide n 97 #[.pointer (some ⟨B, 0, none⟩)] B s0 w := by
  intro l J Jx W hW hJ hJG hY h0
  have hfc : Fence.wide.fn 31 := trivial
  have hboxW : Hid (W.cell? ⟨B, 0, none⟩ = some (.string s0) ∧ W.frozen? ⟨B, 0, none⟩ = false) := Lib.hid ⟨(hW.cell (p := ⟨B, 0, none⟩) hB).trans hbox.cell, (hW.frozen (p := ⟨B, 0, none⟩) hB).trans hbox.frozen⟩
  clear hbox hW
  have h0' := Lib.hid h0
  clear h0
  have hJ' := Lib.hid hJ
  have hJG' := Lib.hid hJG
  have hY' := Lib.hid hY
  clear hJ hJG hY
  refine callsIn_of_wp Tryz.func97 rfl trivial ?_ rfl
  simp only [Tryz.ntmps97, List.size_toArray, List.length_cons, List.length_nil, Nat.reduceAdd, Nat.reduceSub, Array.replicate_succ, Array.replicate_zero, List.push_toArray, List.append_toArray, List.nil_append, List.cons_append]
  gi_wp2
  gi_loopw [3] (fun t wr => ∃ cur : ByteArray, cur.size < 4294967281 ∧ Hid (wr.cell? ⟨B, 0, none⟩ = some (.string cur) ∧ wr.frozen? ⟨B, 0, none⟩ = false) ∧ Hid (J cur wr)) (fun _ wr => leftIn B wr)
  case atStart => exact ⟨s0, hs, hboxW, h0'⟩
  case round =>
    obtain ⟨cur, hsz, hbx, hJc⟩ := hrel
    obtain ⟨hc0, hf0⟩ := hbx.out
    obtain ⟨m, hm⟩ := (hJG'.out cur wr hJc.out).cell
    have hleft := Lib.hid (leftIn_of hc0)
    rcases hline : lineB cur with _ | ⟨x, y⟩
    · have HC := Lib.hid (cut_no (n := n - 1) cur m wr hsz hm hline)
      have hline' := Lib.hid hline
      clear hm hline
      gi_wp2_with (gi_at_call 31; refine HC.out.mono ?_; rintro e w' ⟨rfl, k, rfl⟩)
      refine ⟨fun _ h => (by cases h), ?_⟩
      gi_wp2
      refine bodyPost_ret (results_none rfl _ _ _) rfl ?_
      exact ⟨⟨_, rfl⟩, .inl ⟨cur, hline'.out, (hJ'.out cur).drew _ k hJc.out⟩⟩
    · have HC := Lib.hid (cut_yes (n := n - 1) cur x y m wr hsz hm hline)
      have hR0 := Lib.hid (fun k => hY'.out cur x y (wr.drewN k) ((hJ'.out cur).drew _ k hJc.out) hline)
      have hsy := Lib.hid (lineB_size cur x y hline)
      clear hm hline
      gi_wp2_with (gi_at_call 31; refine HC.out.mono ?_; rintro e w' ⟨rfl, k, rfl⟩; obtain ⟨fn, tmps, assign, body, hy, hR⟩ := hR0.out k; have hR := Lib.hid hR)
      refine hR.out.mono ?_
      rintro e W3 (⟨rfl, hJ3, hb3⟩ | ⟨rfl, hx3⟩)
      · have hc3 : W3.cell? ⟨B, 0, none⟩ = some (.string cur) := (boxed_of hb3).trans hc0
        have hf3 : W3.frozen? ⟨B, 0, none⟩ = false := (frozen_of hb3).trans hf0
        have hset := Lib.hid (World.cell?_setCell_same W3 ⟨B, 0, none⟩ (.string y) hc3)
        have hJ4 := Lib.hid ((hJ'.out y).set W3 (.string y) hJ3)
        clear hJ3 hb3
        gi_wp2
        go_roundw
        case rel => exact ⟨y, by have := hsy.out; omega, Lib.hid ⟨hset.out, by rw [World.frozen?_setCell]; exact hf3⟩, hJ4⟩
        case measure =>
          rw [leftIn_of hset.out, hleft.out]
          have := hsy.out
          omega
      · have hx3 := Lib.hid hx3
        gi_wp2
        refine bodyPost_ret (results_none rfl _ _ _) rfl ?_
        exact ⟨⟨_, rfl⟩, .inr hx3.out⟩
end Go.Proofs.YteonhdfjfjpbjaaGreatDoor.O

/- Px14 -/
namespace Go.Proofs.YteonhdfjfjpbjaaGreatDoor.P
open Go.Proofs.YteonhdfjfjpbjaaGreatDoor.B
open Go.RowKit Go.Proofs.YteonhdfjfjpbjaaGreatDoorW.PrintWords Go.Proofs.YteonhdfjfjpbjaaGreatDoorW.PrintLast Go.Proofs.YteonhdfjfjpbjaaGreatDoorW.PrintMore
attribute [local go_sem] str_leq str_gtr str_geq max2_int min2_int max_two min_two max_three min_three max_four min_four   -- for this text's walks alone
set_option linter.unusedVariables false
set_option linter.unusedSimpArgs false

/-! ### field_token: function 98 -/
def field_token.f (k : Nat) (a0 : ByteArray) : Option (Bool) := (media_Text_Token.f k a0).bind fun bt153 => (if bt153.1.toList = ([] : List UInt8) then (some false) else (some (bt153.2.toList == ([] : List UInt8))))
theorem field_token.mono : ∀ a0 k, LeO (field_token.f k a0) (field_token.f (k + 1) a0) := by
  intro a0 k
  unfold field_token.f
  repeat' first
      | (with_reducible exact media_Text_Token.mono _ _)
      | (with_reducible exact LeO.refl _)
      | (with_reducible exact LeO.none _)
      | (with_reducible refine LeO.ite ?_ ?_)
      | (with_reducible refine LeO.bind ?_ (fun _ => ?_))
      | exact media_Text_Token.mono _ _
      | exact LeO.none _
      | refine LeO.ite ?_ ?_
      | refine LeO.bind ?_ (fun _ => ?_)
set_option maxHeartbeats 8000000 in
set_option maxRecDepth 100000 in
theorem field_token.calls (k : Nat) (a0 : ByteArray) (r : Bool) (w : World) (h : field_token.f k a0 = some r) :
    Calls Tryz.prog 98 #[.string a0] w fun e w' => e = .returned (.bool r) ∧ Below w.heap.size w w' := by
  have HB := Aside0.mk (Below.refl w.heap.size w)
  have H : ((media_Text_Token.f k a0).bind fun bt153 => (if bt153.1.toList = ([] : List UInt8) then (some false) else (some (bt153.2.toList == ([] : List UInt8))))) = some r := h
  clear h
  replace H := Option.bind_eq_some_iff.mp H
  obtain ⟨⟨t153, t154⟩, A20, H⟩ := H
  replace H : (if t153.toList = ([] : List UInt8) then (some false) else (some (t154.toList == ([] : List UInt8)))) = some r := H
  have A2 := Aside0.mk A20
  clear A20
  by_cases c3 : t153.toList = ([] : List UInt8)
  · rw [if_pos c3] at H
    have c3b0 : (t153.toList == ([] : List UInt8)) = true := beq_iff_eq.mpr c3
    have c3b1 : (t153.toList != ([] : List UInt8)) = false := bne_eq_false_iff_eq.mpr c3
    clear c3
    obtain rfl := Option.some.inj H
    go_enter Tryz.func98, Tryz.ntmps98
    go_wp2_with (first | ((with_reducible refine gate_dst (N := 3) rfl ?_); refine box_event ?hg (N := 3) ?hd (cs := #[.string (⟨#[]⟩ : ByteArray)]) (t := 90) ?hr ?_; (case hd => rfl); (case hg => rfl); (case hr => first | (go_simp; done) | (go_simp; rfl)); intro gb152 hg w4 hbox hb; have n0_ := Aside0.mk (below_step (by repeat (first | (with_reducible first | exact HB.out | apply below_alloc | apply pw_below_drewN | apply below_drew1) | exact HB.out)) hb); have n1_ := Aside0.mk ((by rw [hg]; exact (below_size (by repeat (first | (with_reducible first | exact HB.out | apply below_alloc | apply pw_below_drewN | apply below_drew1) | exact HB.out))) : w.heap.size ≤ gb152)); have n2_ := Aside0.mk ((by rw [hg]; exact (below_size (by repeat (first | (with_reducible first | exact HB.out | apply below_alloc | apply pw_below_drewN | apply below_drew1) | exact HB.out))) : w.heap.size ≤ gb152)); have n3_ := Aside0.mk ((show IsS90 w w4 gb152 (⟨#[]⟩ : ByteArray) from ⟨hbox, (by rw [hg]; exact (below_size (by repeat (first | (with_reducible first | exact HB.out | apply below_alloc | apply pw_below_drewN | apply below_drew1) | exact HB.out))))⟩)); clear HB; have HB := n0_; have GW152 := n1_; have GE152 := n2_; have HI152 := n3_; clear n0_ n1_ n2_ n3_; clear hb hbox hg; obtain ⟨HGz5, hgz5⟩ := HI152.out; have hcz5_0 := cellS90_0 HGz5; have hfz5_0 := blk_frozen HGz5 0; clear HGz5 hgz5) | ((with_reducible refine gate_callee (f := 70) rfl ?_); refine goesL_ (some 5) rfl rfl Tryz.func70 (by kernel_rfl) rfl #[.pointer (some ⟨gb152, 0, none⟩)] rfl (by (try simp only [List.map_toArray, List.map_cons, List.map_nil]); first | done | rfl | (simp only [List.length_drop, List.length_take]; rfl)) ?_; (with_reducible refine (media_Text_Token.calls k gb152 a0 t153 t154 w _ ?side1 ?side2 A2.out).mono ?_); (case side1 => repeat (first | (with_reducible first | exact HI152.out | apply IsS90.alloc | apply IsS90.drewN | apply IsS90.drew | apply IsS90.set_0) | exact HI152.out)); (case side2 => repeat (first | (with_reducible first | exact HB.out | apply below_alloc | apply pw_below_drewN | apply below_drew1 | refine below_set ?_ (IsS90.ge HI152.out)) | exact HB.out)); rintro e w6 ⟨rfl, hi, hb, hk⟩; refine ⟨_, rfl, ?_⟩; have n0_ := Aside0.mk (hb); have n1_ := Aside0.mk (hi); clear HB; clear HI152; have HB := n0_; have HI152 := n1_; clear n0_ n1_; (try clear hb); (try clear hb2); (try clear hk); (try clear hi)))
    go_ret
    exact ⟨by first | rfl | (simp [errW_none, errW_some, bne_nil_] <;> rfl) | (simp [*, errW_none, errW_some] <;> rfl), by repeat (first | (with_reducible first | exact HB.out | apply below_alloc | apply pw_below_drewN | apply below_drew1 | refine below_set ?_ (IsS90.ge HI152.out)) | exact HB.out)⟩
  · rw [if_neg c3] at H
    have c3b0 : (t153.toList == ([] : List UInt8)) = false := beq_eq_false_iff_ne.mpr c3
    have c3b1 : (t153.toList != ([] : List UInt8)) = true := bne_iff_ne.mpr c3
    obtain rfl := Option.some.inj H
    go_enter Tryz.func98, Tryz.ntmps98
    go_wp2_with (first | ((with_reducible refine gate_dst (N := 3) rfl ?_); refine box_event ?hg (N := 3) ?hd (cs := #[.string (⟨#[]⟩ : ByteArray)]) (t := 90) ?hr ?_; (case hd => rfl); (case hg => rfl); (case hr => first | (go_simp; done) | (go_simp; rfl)); intro gb152 hg w7 hbox hb; have n0_ := Aside0.mk (below_step (by repeat (first | (with_reducible first | exact HB.out | apply below_alloc | apply pw_below_drewN | apply below_drew1) | exact HB.out)) hb); have n1_ := Aside0.mk ((by rw [hg]; exact (below_size (by repeat (first | (with_reducible first | exact HB.out | apply below_alloc | apply pw_below_drewN | apply below_drew1) | exact HB.out))) : w.heap.size ≤ gb152)); have n2_ := Aside0.mk ((by rw [hg]; exact (below_size (by repeat (first | (with_reducible first | exact HB.out | apply below_alloc | apply pw_below_drewN | apply below_drew1) | exact HB.out))) : w.heap.size ≤ gb152)); have n3_ := Aside0.mk ((show IsS90 w w7 gb152 (⟨#[]⟩ : ByteArray) from ⟨hbox, (by rw [hg]; exact (below_size (by repeat (first | (with_reducible first | exact HB.out | apply below_alloc | apply pw_below_drewN | apply below_drew1) | exact HB.out))))⟩)); clear HB; have HB := n0_; have GW152 := n1_; have GE152 := n2_; have HI152 := n3_; clear n0_ n1_ n2_ n3_; clear hb hbox hg; obtain ⟨HGz8, hgz8⟩ := HI152.out; have hcz8_0 := cellS90_0 HGz8; have hfz8_0 := blk_frozen HGz8 0; clear HGz8 hgz8) | ((with_reducible refine gate_callee (f := 70) rfl ?_); refine goesL_ (some 5) rfl rfl Tryz.func70 (by kernel_rfl) rfl #[.pointer (some ⟨gb152, 0, none⟩)] rfl (by (try simp only [List.map_toArray, List.map_cons, List.map_nil]); first | done | rfl | (simp only [List.length_drop, List.length_take]; rfl)) ?_; (with_reducible refine (media_Text_Token.calls k gb152 a0 t153 t154 w _ ?side1 ?side2 A2.out).mono ?_); (case side1 => repeat (first | (with_reducible first | exact HI152.out | apply IsS90.alloc | apply IsS90.drewN | apply IsS90.drew | apply IsS90.set_0) | exact HI152.out)); (case side2 => repeat (first | (with_reducible first | exact HB.out | apply below_alloc | apply pw_below_drewN | apply below_drew1 | refine below_set ?_ (IsS90.ge HI152.out)) | exact HB.out)); rintro e w9 ⟨rfl, hi, hb, hk⟩; refine ⟨_, rfl, ?_⟩; have n0_ := Aside0.mk (hb); have n1_ := Aside0.mk (hi); clear HB; clear HI152; have HB := n0_; have HI152 := n1_; clear n0_ n1_; (try clear hb); (try clear hb2); (try clear hk); (try clear hi); obtain ⟨HGz10, hgz10⟩ := HI152.out; have hcz10_0 := cellS90_0 HGz10; have hfz10_0 := blk_frozen HGz10 0; clear HGz10 hgz10))
    go_ret
    exact ⟨by first | rfl | (simp [errW_none, errW_some, bne_nil_] <;> rfl) | (simp [*, errW_none, errW_some] <;> rfl), by repeat (first | (with_reducible first | exact HB.out | apply below_alloc | apply pw_below_drewN | apply below_drew1 | refine below_set ?_ (IsS90.ge HI152.out)) | exact HB.out)⟩

end Go.Proofs.YteonhdfjfjpbjaaGreatDoor.P

/- Px15 -/
namespace Go.Proofs.YteonhdfjfjpbjaaGreatDoor.P
open Go.Proofs.YteonhdfjfjpbjaaGreatDoor.B
open Go.RowKit Go.Proofs.YteonhdfjfjpbjaaGreatDoorW.PrintWords Go.Proofs.YteonhdfjfjpbjaaGreatDoorW.PrintLast Go.Proofs.YteonhdfjfjpbjaaGreatDoorW.PrintMore
attribute [local go_sem] str_leq str_gtr str_geq max2_int min2_int max_two min_two max_three min_three max_four min_four   -- for this text's walks alone
set_option linter.unusedVariables false
set_option linter.unusedSimpArgs false

open Go.Proofs.YteonhdfjfjpbjaaGreatDoor.O
/-! ### field_pair: function 62 -/
def field_pair.f (k : Nat) (a0 : ByteArray) : Option (ByteArray × ByteArray × Bool) := (strings_Cut.f a0 (⟨#[58]⟩ : ByteArray)).bind fun bt156 => ((strings_Trim.f bt156.2.1 (⟨#[32, 9]⟩ : ByteArray)).bind fun t159 => ((media_Small.f bt156.1).bind fun t160 => (if bt156.2.2 = true then ((field_token.f k bt156.1).bind fun t161 => (if t161 = true then ((field_value.f t159).bind fun t162 => (some (t160, t159, t162))) else (some (t160, t159, false)))) else (some (t160, t159, false)))))
theorem field_pair.mono : ∀ a0 k, LeO (field_pair.f k a0) (field_pair.f (k + 1) a0) := by
  intro a0 k
  unfold field_pair.f
  repeat' first
      | (with_reducible exact field_token.mono _ _)
      | (with_reducible exact LeO.refl _)
      | (with_reducible exact LeO.none _)
      | (with_reducible refine LeO.ite ?_ ?_)
      | (with_reducible refine LeO.bind ?_ (fun _ => ?_))
      | exact field_token.mono _ _
      | exact LeO.none _
      | refine LeO.ite ?_ ?_
      | refine LeO.bind ?_ (fun _ => ?_)
set_option maxHeartbeats 8000000 in
set_option maxRecDepth 100000 in
theorem field_pair.calls (k : Nat) (a0 : ByteArray) (r1 : ByteArray) (r2 : ByteArray) (r3 : Bool) (w : World) (hG : Glob w) (h : field_pair.f k a0 = some (r1, r2, r3)) :
    Calls Tryz.prog 62 #[.string a0] w fun e w' => e = .returned (.tuple #[.agg #[.string r1, .string r2], .bool r3]) ∧ Below w.heap.size w w' := by
  have hu49 := Tryz.underlying49
  have HB := Aside0.mk (Below.refl w.heap.size w)
  have hGA := Aside0.mk hG
  clear hG
  have H : ((strings_Cut.f a0 (⟨#[58]⟩ : ByteArray)).bind fun bt156 => ((strings_Trim.f bt156.2.1 (⟨#[32, 9]⟩ : ByteArray)).bind fun t159 => ((media_Small.f bt156.1).bind fun t160 => (if bt156.2.2 = true then ((field_token.f k bt156.1).bind fun t161 => (if t161 = true then ((field_value.f t159).bind fun t162 => (some (t160, t159, t162))) else (some (t160, t159, false)))) else (some (t160, t159, false)))))) = some (r1, r2, r3) := h
  clear h
  replace H := Option.bind_eq_some_iff.mp H
  obtain ⟨⟨t156, t157, t158⟩, A20, H⟩ := H
  replace H : ((strings_Trim.f t157 (⟨#[32, 9]⟩ : ByteArray)).bind fun t159 => ((media_Small.f t156).bind fun t160 => (if t158 = true then ((field_token.f k t156).bind fun t161 => (if t161 = true then ((field_value.f t159).bind fun t162 => (some (t160, t159, t162))) else (some (t160, t159, false)))) else (some (t160, t159, false))))) = some (r1, r2, r3) := H
  have A2 := Aside0.mk A20
  clear A20
  replace H := Option.bind_eq_some_iff.mp H
  obtain ⟨t159, A30, H⟩ := H
  replace H : ((media_Small.f t156).bind fun t160 => (if t158 = true then ((field_token.f k t156).bind fun t161 => (if t161 = true then ((field_value.f t159).bind fun t162 => (some (t160, t159, t162))) else (some (t160, t159, false)))) else (some (t160, t159, false)))) = some (r1, r2, r3) := H
  have A3 := Aside0.mk A30
  clear A30
  replace H := Option.bind_eq_some_iff.mp H
  obtain ⟨t160, A40, H⟩ := H
  replace H : (if t158 = true then ((field_token.f k t156).bind fun t161 => (if t161 = true then ((field_value.f t159).bind fun t162 => (some (t160, t159, t162))) else (some (t160, t159, false)))) else (some (t160, t159, false))) = some (r1, r2, r3) := H
  have A4 := Aside0.mk A40
  clear A40
  by_cases c5 : t158 = true
  · subst c5
    have H1 : ((field_token.f k t156).bind fun t161 => (if t161 = true then ((field_value.f t159).bind fun t162 => (some (t160, t159, t162))) else (some (t160, t159, false)))) = some (r1, r2, r3) := by rw [if_pos rfl] at H; exact H
    clear H
    have H := H1
    clear H1
    replace H := Option.bind_eq_some_iff.mp H
    obtain ⟨t161, A60, H⟩ := H
    replace H : (if t161 = true then ((field_value.f t159).bind fun t162 => (some (t160, t159, t162))) else (some (t160, t159, false))) = some (r1, r2, r3) := H
    have A6 := Aside0.mk A60
    clear A60
    by_cases c7 : t161 = true
    · subst c7
      have H1 : ((field_value.f t159).bind fun t162 => (some (t160, t159, t162))) = some (r1, r2, r3) := by rw [if_pos rfl] at H; exact H
      clear H
      have H := H1
      clear H1
      replace H := Option.bind_eq_some_iff.mp H
      obtain ⟨t162, A80, H⟩ := H
      replace H : (some (t160, t159, t162)) = some (r1, r2, r3) := H
      have A8 := Aside0.mk A80
      clear A80
      simp only [Option.some.injEq, Prod.mk.injEq] at H
      obtain ⟨rfl, rfl, rfl⟩ := H
      go_enter Tryz.func62, Tryz.ntmps62
      go_wp2_with (first | ((with_reducible refine gate_dst (N := 2) rfl ?_); refine box_event ?hg (N := 2) ?hd (cs := #[.string (⟨#[]⟩ : ByteArray), .string (⟨#[]⟩ : ByteArray)]) (t := 49) ?hr ?_; (case hd => rfl); (case hg => rfl); (case hr => first | (go_simp; done) | (go_simp; rfl)); intro gb155 hg w9 hbox hb; have n0_ := Aside0.mk (below_step (by repeat (first | (with_reducible first | exact HB.out | apply below_alloc | apply pw_below_drewN | apply below_drew1) | exact HB.out)) hb); have n1_ := Aside0.mk (hbox); have n2_ := Aside0.mk ((by rw [hg]; exact (below_size (by repeat (first | (with_reducible first | exact HB.out | apply below_alloc | apply pw_below_drewN | apply below_drew1) | exact HB.out))) : w.heap.size ≤ gb155)); have n3_ := Aside0.mk ((by rw [hg]; exact (below_size (by repeat (first | (with_reducible first | exact HB.out | apply below_alloc | apply pw_below_drewN | apply below_drew1) | exact HB.out))) : w.heap.size ≤ gb155)); clear HB; have HB := n0_; have BK155 := n1_; have GW155 := n2_; have GE155 := n3_; clear n0_ n1_ n2_ n3_; clear hb hbox hg) | ((with_reducible refine gate_callee (f := 31) rfl ?_); refine goesL_ (some 9) rfl rfl Tryz.func31 (by kernel_rfl) rfl #[.string a0, .string (⟨#[58]⟩ : ByteArray)] rfl (by (try simp only [List.map_toArray, List.map_cons, List.map_nil]); first | done | rfl | (simp only [List.length_drop, List.length_take]; rfl)) ?_; (with_reducible refine (strings_Cut.calls a0 (⟨#[58]⟩ : ByteArray) t156 t157 true _ ?side1 A2.out).mono ?_); (case side1 => exact Glob.below hGA.out (by repeat (first | (with_reducible first | exact HB.out | apply below_alloc | apply pw_below_drewN | apply below_drew1 | refine below_set ?_ GE155.out) | exact HB.out))); rintro e w10 ⟨rfl, hb⟩; refine ⟨_, rfl, ?_⟩; have n0_ := Aside0.mk (blk_below (g := gb155) (o := .cells #[.string (⟨#[]⟩ : ByteArray), .string (⟨#[]⟩ : ByteArray)] 49 (0, 0)) (by (with_reducible repeat (first | refine blk_drewN ?_ _ | refine blk_drew ?_ | refine blk_alloc ?_ _)); exact BK155.out) hb); have n1_ := Aside0.mk (below_step (by repeat (first | (with_reducible first | exact HB.out | apply below_alloc | apply pw_below_drewN | apply below_drew1 | refine below_set ?_ GE155.out) | exact HB.out)) hb); clear BK155; clear HB; have BK155 := n0_; have HB := n1_; clear n0_ n1_; (try clear hb); (try clear hb2); (try clear hk); (try clear hi)) | ((with_reducible refine gate_callee (f := 46) rfl ?_); refine goesL_ (some 14) rfl rfl Tryz.func46 (by kernel_rfl) rfl #[.string t157, .string (⟨#[32, 9]⟩ : ByteArray)] rfl (by (try simp only [List.map_toArray, List.map_cons, List.map_nil]); first | done | rfl | (simp only [List.length_drop, List.length_take]; rfl)) ?_; (with_reducible refine (strings_Trim.calls t157 (⟨#[32, 9]⟩ : ByteArray) t159 _ A3.out).mono ?_); rintro e w11 ⟨rfl, hb⟩; refine ⟨_, rfl, ?_⟩; have n0_ := Aside0.mk (blk_below (g := gb155) (o := .cells #[.string (⟨#[]⟩ : ByteArray), .string (⟨#[]⟩ : ByteArray)] 49 (0, 0)) (by (with_reducible repeat (first | refine blk_drewN ?_ _ | refine blk_drew ?_ | refine blk_alloc ?_ _)); exact BK155.out) hb); have n1_ := Aside0.mk (below_step (by repeat (first | (with_reducible first | exact HB.out | apply below_alloc | apply pw_below_drewN | apply below_drew1 | refine below_set ?_ GE155.out) | exact HB.out)) hb); clear BK155; clear HB; have BK155 := n0_; have HB := n1_; clear n0_ n1_; (try clear hb); (try clear hb2); (try clear hk); (try clear hi)) | ((with_reducible refine gate_callee (f := 50) rfl ?_); refine goesL_ (some 16) rfl rfl Tryz.func50 (by kernel_rfl) rfl #[.string t156] rfl (by (try simp only [List.map_toArray, List.map_cons, List.map_nil]); first | done | rfl | (simp only [List.length_drop, List.length_take]; rfl)) ?_; (with_reducible refine (media_Small.calls t156 t160 _ A4.out).mono ?_); rintro e w12 ⟨rfl, hb⟩; refine ⟨_, rfl, ?_⟩; have n0_ := Aside0.mk (blk_below (g := gb155) (o := .cells #[.string (⟨#[]⟩ : ByteArray), .string (⟨#[]⟩ : ByteArray)] 49 (0, 0)) (by (with_reducible repeat (first | refine blk_drewN ?_ _ | refine blk_drew ?_ | refine blk_alloc ?_ _)); exact BK155.out) hb); have n1_ := Aside0.mk (below_step (by repeat (first | (with_reducible first | exact HB.out | apply below_alloc | apply pw_below_drewN | apply below_drew1 | refine below_set ?_ GE155.out) | exact HB.out)) hb); clear BK155; clear HB; have BK155 := n0_; have HB := n1_; clear n0_ n1_; (try clear hb); (try clear hb2); (try clear hk); (try clear hi)) | (go_at_call 98; (with_reducible refine (field_token.calls k t156 true _ A6.out).mono ?_); rintro e w13 ⟨rfl, hb⟩; have n0_ := Aside0.mk (blk_below (g := gb155) (o := .cells #[.string (⟨#[]⟩ : ByteArray), .string (⟨#[]⟩ : ByteArray)] 49 (0, 0)) (by (with_reducible repeat (first | refine blk_drewN ?_ _ | refine blk_drew ?_ | refine blk_alloc ?_ _)); exact BK155.out) hb); have n1_ := Aside0.mk (below_step (by repeat (first | (with_reducible first | exact HB.out | apply below_alloc | apply pw_below_drewN | apply below_drew1 | refine below_set ?_ GE155.out) | exact HB.out)) hb); clear BK155; clear HB; have BK155 := n0_; have HB := n1_; clear n0_ n1_; (try clear hb); (try clear hb2); (try clear hk); (try clear hi)) | (go_at_call 99; (with_reducible refine (field_value.calls t159 t162 _ A8.out).mono ?_); rintro e w14 ⟨rfl, hb⟩; have n0_ := Aside0.mk (blk_below (g := gb155) (o := .cells #[.string (⟨#[]⟩ : ByteArray), .string (⟨#[]⟩ : ByteArray)] 49 (0, 0)) (by (with_reducible repeat (first | refine blk_drewN ?_ _ | refine blk_drew ?_ | refine blk_alloc ?_ _)); exact BK155.out) hb); have n1_ := Aside0.mk (below_step (by repeat (first | (with_reducible first | exact HB.out | apply below_alloc | apply pw_below_drewN | apply below_drew1 | refine below_set ?_ GE155.out) | exact HB.out)) hb); clear BK155; clear HB; have BK155 := n0_; have HB := n1_; clear n0_ n1_; (try clear hb); (try clear hb2); (try clear hk); (try clear hi); have hcz15_0 : w14.cell? ⟨gb155, 0, none⟩ = some (.string (⟨#[]⟩ : ByteArray)) := (blk_cell BK155.out 0).trans rfl; have hcz15_1 : w14.cell? ⟨gb155, 1, none⟩ = some (.string (⟨#[]⟩ : ByteArray)) := (blk_cell BK155.out 1).trans rfl; have hfz15_0 := blk_frozen BK155.out 0; have hfz15_1 := blk_frozen BK155.out 1))
      refine bodyPost_ret (results_ct rfl _ _ gb155 49 #[.string t160, .string t159] (0, 0) _ rfl (by (with_reducible repeat (first | refine blk_drewN ?_ _ | refine blk_drew ?_ | refine blk_alloc ?_ _)); refine blk_put (cs := #[.string t160, .string (⟨#[]⟩ : ByteArray)]) ?_ 1 _ rfl; (with_reducible repeat (first | refine blk_drewN ?_ _ | refine blk_drew ?_ | refine blk_alloc ?_ _)); refine blk_put (cs := #[.string (⟨#[]⟩ : ByteArray), .string (⟨#[]⟩ : ByteArray)]) ?_ 0 _ rfl; (with_reducible repeat (first | refine blk_drewN ?_ _ | refine blk_drew ?_ | refine blk_alloc ?_ _)); exact BK155.out) Tryz.underlying49 rfl (by kernel_rfl)) rfl ?_
      exact ⟨by first | rfl | (simp [errW_none, errW_some, bne_nil_] <;> rfl) | (simp [*, errW_none, errW_some] <;> rfl), by repeat (first | (with_reducible first | exact HB.out | apply below_alloc | apply pw_below_drewN | apply below_drew1 | refine below_set ?_ GE155.out) | exact HB.out)⟩
    · replace c7 := Bool.eq_false_iff.mpr c7
      subst c7
      have H1 : (some (t160, t159, false)) = some (r1, r2, r3) := by rw [if_neg (show ¬ (false = true) by decide)] at H; exact H
      clear H
      have H := H1
      clear H1
      simp only [Option.some.injEq, Prod.mk.injEq] at H
      obtain ⟨rfl, rfl, rfl⟩ := H
      go_enter Tryz.func62, Tryz.ntmps62
      go_wp2_with (first | ((with_reducible refine gate_dst (N := 2) rfl ?_); refine box_event ?hg (N := 2) ?hd (cs := #[.string (⟨#[]⟩ : ByteArray), .string (⟨#[]⟩ : ByteArray)]) (t := 49) ?hr ?_; (case hd => rfl); (case hg => rfl); (case hr => first | (go_simp; done) | (go_simp; rfl)); intro gb155 hg w16 hbox hb; have n0_ := Aside0.mk (below_step (by repeat (first | (with_reducible first | exact HB.out | apply below_alloc | apply pw_below_drewN | apply below_drew1) | exact HB.out)) hb); have n1_ := Aside0.mk (hbox); have n2_ := Aside0.mk ((by rw [hg]; exact (below_size (by repeat (first | (with_reducible first | exact HB.out | apply below_alloc | apply pw_below_drewN | apply below_drew1) | exact HB.out))) : w.heap.size ≤ gb155)); have n3_ := Aside0.mk ((by rw [hg]; exact (below_size (by repeat (first | (with_reducible first | exact HB.out | apply below_alloc | apply pw_below_drewN | apply below_drew1) | exact HB.out))) : w.heap.size ≤ gb155)); clear HB; have HB := n0_; have BK155 := n1_; have GW155 := n2_; have GE155 := n3_; clear n0_ n1_ n2_ n3_; clear hb hbox hg) | ((with_reducible refine gate_callee (f := 31) rfl ?_); refine goesL_ (some 9) rfl rfl Tryz.func31 (by kernel_rfl) rfl #[.string a0, .string (⟨#[58]⟩ : ByteArray)] rfl (by (try simp only [List.map_toArray, List.map_cons, List.map_nil]); first | done | rfl | (simp only [List.length_drop, List.length_take]; rfl)) ?_; (with_reducible refine (strings_Cut.calls a0 (⟨#[58]⟩ : ByteArray) t156 t157 true _ ?side1 A2.out).mono ?_); (case side1 => exact Glob.below hGA.out (by repeat (first | (with_reducible first | exact HB.out | apply below_alloc | apply pw_below_drewN | apply below_drew1 | refine below_set ?_ GE155.out) | exact HB.out))); rintro e w17 ⟨rfl, hb⟩; refine ⟨_, rfl, ?_⟩; have n0_ := Aside0.mk (blk_below (g := gb155) (o := .cells #[.string (⟨#[]⟩ : ByteArray), .string (⟨#[]⟩ : ByteArray)] 49 (0, 0)) (by (with_reducible repeat (first | refine blk_drewN ?_ _ | refine blk_drew ?_ | refine blk_alloc ?_ _)); exact BK155.out) hb); have n1_ := Aside0.mk (below_step (by repeat (first | (with_reducible first | exact HB.out | apply below_alloc | apply pw_below_drewN | apply below_drew1 | refine below_set ?_ GE155.out) | exact HB.out)) hb); clear BK155; clear HB; have BK155 := n0_; have HB := n1_; clear n0_ n1_; (try clear hb); (try clear hb2); (try clear hk); (try clear hi)) | ((with_reducible refine gate_callee (f := 46) rfl ?_); refine goesL_ (some 14) rfl rfl Tryz.func46 (by kernel_rfl) rfl #[.string t157, .string (⟨#[32, 9]⟩ : ByteArray)] rfl (by (try simp only [List.map_toArray, List.map_cons, List.map_nil]); first | done | rfl | (simp only [List.length_drop, List.length_take]; rfl)) ?_; (with_reducible refine (strings_Trim.calls t157 (⟨#[32, 9]⟩ : ByteArray) t159 _ A3.out).mono ?_); rintro e w18 ⟨rfl, hb⟩; refine ⟨_, rfl, ?_⟩; have n0_ := Aside0.mk (blk_below (g := gb155) (o := .cells #[.string (⟨#[]⟩ : ByteArray), .string (⟨#[]⟩ : ByteArray)] 49 (0, 0)) (by (with_reducible repeat (first | refine blk_drewN ?_ _ | refine blk_drew ?_ | refine blk_alloc ?_ _)); exact BK155.out) hb); have n1_ := Aside0.mk (below_step (by repeat (first | (with_reducible first | exact HB.out | apply below_alloc | apply pw_below_drewN | apply below_drew1 | refine below_set ?_ GE155.out) | exact HB.out)) hb); clear BK155; clear HB; have BK155 := n0_; have HB := n1_; clear n0_ n1_; (try clear hb); (try clear hb2); (try clear hk); (try clear hi)) | ((with_reducible refine gate_callee (f := 50) rfl ?_); refine goesL_ (some 16) rfl rfl Tryz.func50 (by kernel_rfl) rfl #[.string t156] rfl (by (try simp only [List.map_toArray, List.map_cons, List.map_nil]); first | done | rfl | (simp only [List.length_drop, List.length_take]; rfl)) ?_; (with_reducible refine (media_Small.calls t156 t160 _ A4.out).mono ?_); rintro e w19 ⟨rfl, hb⟩; refine ⟨_, rfl, ?_⟩; have n0_ := Aside0.mk (blk_below (g := gb155) (o := .cells #[.string (⟨#[]⟩ : ByteArray), .string (⟨#[]⟩ : ByteArray)] 49 (0, 0)) (by (with_reducible repeat (first | refine blk_drewN ?_ _ | refine blk_drew ?_ | refine blk_alloc ?_ _)); exact BK155.out) hb); have n1_ := Aside0.mk (below_step (by repeat (first | (with_reducible first | exact HB.out | apply below_alloc | apply pw_below_drewN | apply below_drew1 | refine below_set ?_ GE155.out) | exact HB.out)) hb); clear BK155; clear HB; have BK155 := n0_; have HB := n1_; clear n0_ n1_; (try clear hb); (try clear hb2); (try clear hk); (try clear hi)) | (go_at_call 98; (with_reducible refine (field_token.calls k t156 false _ A6.out).mono ?_); rintro e w20 ⟨rfl, hb⟩; have n0_ := Aside0.mk (blk_below (g := gb155) (o := .cells #[.string (⟨#[]⟩ : ByteArray), .string (⟨#[]⟩ : ByteArray)] 49 (0, 0)) (by (with_reducible repeat (first | refine blk_drewN ?_ _ | refine blk_drew ?_ | refine blk_alloc ?_ _)); exact BK155.out) hb); have n1_ := Aside0.mk (below_step (by repeat (first | (with_reducible first | exact HB.out | apply below_alloc | apply pw_below_drewN | apply below_drew1 | refine below_set ?_ GE155.out) | exact HB.out)) hb); clear BK155; clear HB; have BK155 := n0_; have HB := n1_; clear n0_ n1_; (try clear hb); (try clear hb2); (try clear hk); (try clear hi); have hcz21_0 : w20.cell? ⟨gb155, 0, none⟩ = some (.string (⟨#[]⟩ : ByteArray)) := (blk_cell BK155.out 0).trans rfl; have hcz21_1 : w20.cell? ⟨gb155, 1, none⟩ = some (.string (⟨#[]⟩ : ByteArray)) := (blk_cell BK155.out 1).trans rfl; have hfz21_0 := blk_frozen BK155.out 0; have hfz21_1 := blk_frozen BK155.out 1))
      refine bodyPost_ret (results_ct rfl _ _ gb155 49 #[.string t160, .string t159] (0, 0) _ rfl (by (with_reducible repeat (first | refine blk_drewN ?_ _ | refine blk_drew ?_ | refine blk_alloc ?_ _)); refine blk_put (cs := #[.string t160, .string (⟨#[]⟩ : ByteArray)]) ?_ 1 _ rfl; (with_reducible repeat (first | refine blk_drewN ?_ _ | refine blk_drew ?_ | refine blk_alloc ?_ _)); refine blk_put (cs := #[.string (⟨#[]⟩ : ByteArray), .string (⟨#[]⟩ : ByteArray)]) ?_ 0 _ rfl; (with_reducible repeat (first | refine blk_drewN ?_ _ | refine blk_drew ?_ | refine blk_alloc ?_ _)); exact BK155.out) Tryz.underlying49 rfl (by kernel_rfl)) rfl ?_
      exact ⟨by first | rfl | (simp [errW_none, errW_some, bne_nil_] <;> rfl) | (simp [*, errW_none, errW_some] <;> rfl), by repeat (first | (with_reducible first | exact HB.out | apply below_alloc | apply pw_below_drewN | apply below_drew1 | refine below_set ?_ GE155.out) | exact HB.out)⟩
  · replace c5 := Bool.eq_false_iff.mpr c5
    subst c5
    have H1 : (some (t160, t159, false)) = some (r1, r2, r3) := by rw [if_neg (show ¬ (false = true) by decide)] at H; exact H
    clear H
    have H := H1
    clear H1
    simp only [Option.some.injEq, Prod.mk.injEq] at H
    obtain ⟨rfl, rfl, rfl⟩ := H
    go_enter Tryz.func62, Tryz.ntmps62
    go_wp2_with (first | ((with_reducible refine gate_dst (N := 2) rfl ?_); refine box_event ?hg (N := 2) ?hd (cs := #[.string (⟨#[]⟩ : ByteArray), .string (⟨#[]⟩ : ByteArray)]) (t := 49) ?hr ?_; (case hd => rfl); (case hg => rfl); (case hr => first | (go_simp; done) | (go_simp; rfl)); intro gb155 hg w22 hbox hb; have n0_ := Aside0.mk (below_step (by repeat (first | (with_reducible first | exact HB.out | apply below_alloc | apply pw_below_drewN | apply below_drew1) | exact HB.out)) hb); have n1_ := Aside0.mk (hbox); have n2_ := Aside0.mk ((by rw [hg]; exact (below_size (by repeat (first | (with_reducible first | exact HB.out | apply below_alloc | apply pw_below_drewN | apply below_drew1) | exact HB.out))) : w.heap.size ≤ gb155)); have n3_ := Aside0.mk ((by rw [hg]; exact (below_size (by repeat (first | (with_reducible first | exact HB.out | apply below_alloc | apply pw_below_drewN | apply below_drew1) | exact HB.out))) : w.heap.size ≤ gb155)); clear HB; have HB := n0_; have BK155 := n1_; have GW155 := n2_; have GE155 := n3_; clear n0_ n1_ n2_ n3_; clear hb hbox hg) | ((with_reducible refine gate_callee (f := 31) rfl ?_); refine goesL_ (some 9) rfl rfl Tryz.func31 (by kernel_rfl) rfl #[.string a0, .string (⟨#[58]⟩ : ByteArray)] rfl (by (try simp only [List.map_toArray, List.map_cons, List.map_nil]); first | done | rfl | (simp only [List.length_drop, List.length_take]; rfl)) ?_; (with_reducible refine (strings_Cut.calls a0 (⟨#[58]⟩ : ByteArray) t156 t157 false _ ?side1 A2.out).mono ?_); (case side1 => exact Glob.below hGA.out (by repeat (first | (with_reducible first | exact HB.out | apply below_alloc | apply pw_below_drewN | apply below_drew1 | refine below_set ?_ GE155.out) | exact HB.out))); rintro e w23 ⟨rfl, hb⟩; refine ⟨_, rfl, ?_⟩; have n0_ := Aside0.mk (blk_below (g := gb155) (o := .cells #[.string (⟨#[]⟩ : ByteArray), .string (⟨#[]⟩ : ByteArray)] 49 (0, 0)) (by (with_reducible repeat (first | refine blk_drewN ?_ _ | refine blk_drew ?_ | refine blk_alloc ?_ _)); exact BK155.out) hb); have n1_ := Aside0.mk (below_step (by repeat (first | (with_reducible first | exact HB.out | apply below_alloc | apply pw_below_drewN | apply below_drew1 | refine below_set ?_ GE155.out) | exact HB.out)) hb); clear BK155; clear HB; have BK155 := n0_; have HB := n1_; clear n0_ n1_; (try clear hb); (try clear hb2); (try clear hk); (try clear hi)) | ((with_reducible refine gate_callee (f := 46) rfl ?_); refine goesL_ (some 14) rfl rfl Tryz.func46 (by kernel_rfl) rfl #[.string t157, .string (⟨#[32, 9]⟩ : ByteArray)] rfl (by (try simp only [List.map_toArray, List.map_cons, List.map_nil]); first | done | rfl | (simp only [List.length_drop, List.length_take]; rfl)) ?_; (with_reducible refine (strings_Trim.calls t157 (⟨#[32, 9]⟩ : ByteArray) t159 _ A3.out).mono ?_); rintro e w24 ⟨rfl, hb⟩; refine ⟨_, rfl, ?_⟩; have n0_ := Aside0.mk (blk_below (g := gb155) (o := .cells #[.string (⟨#[]⟩ : ByteArray), .string (⟨#[]⟩ : ByteArray)] 49 (0, 0)) (by (with_reducible repeat (first | refine blk_drewN ?_ _ | refine blk_drew ?_ | refine blk_alloc ?_ _)); exact BK155.out) hb); have n1_ := Aside0.mk (below_step (by repeat (first | (with_reducible first | exact HB.out | apply below_alloc | apply pw_below_drewN | apply below_drew1 | refine below_set ?_ GE155.out) | exact HB.out)) hb); clear BK155; clear HB; have BK155 := n0_; have HB := n1_; clear n0_ n1_; (try clear hb); (try clear hb2); (try clear hk); (try clear hi)) | ((with_reducible refine gate_callee (f := 50) rfl ?_); refine goesL_ (some 16) rfl rfl Tryz.func50 (by kernel_rfl) rfl #[.string t156] rfl (by (try simp only [List.map_toArray, List.map_cons, List.map_nil]); first | done | rfl | (simp only [List.length_drop, List.length_take]; rfl)) ?_; (with_reducible refine (media_Small.calls t156 t160 _ A4.out).mono ?_); rintro e w25 ⟨rfl, hb⟩; refine ⟨_, rfl, ?_⟩; have n0_ := Aside0.mk (blk_below (g := gb155) (o := .cells #[.string (⟨#[]⟩ : ByteArray), .string (⟨#[]⟩ : ByteArray)] 49 (0, 0)) (by (with_reducible repeat (first | refine blk_drewN ?_ _ | refine blk_drew ?_ | refine blk_alloc ?_ _)); exact BK155.out) hb); have n1_ := Aside0.mk (below_step (by repeat (first | (with_reducible first | exact HB.out | apply below_alloc | apply pw_below_drewN | apply below_drew1 | refine below_set ?_ GE155.out) | exact HB.out)) hb); clear BK155; clear HB; have BK155 := n0_; have HB := n1_; clear n0_ n1_; (try clear hb); (try clear hb2); (try clear hk); (try clear hi); have hcz26_0 : w25.cell? ⟨gb155, 0, none⟩ = some (.string (⟨#[]⟩ : ByteArray)) := (blk_cell BK155.out 0).trans rfl; have hcz26_1 : w25.cell? ⟨gb155, 1, none⟩ = some (.string (⟨#[]⟩ : ByteArray)) := (blk_cell BK155.out 1).trans rfl; have hfz26_0 := blk_frozen BK155.out 0; have hfz26_1 := blk_frozen BK155.out 1))
    refine bodyPost_ret (results_ct rfl _ _ gb155 49 #[.string t160, .string t159] (0, 0) _ rfl (by (with_reducible repeat (first | refine blk_drewN ?_ _ | refine blk_drew ?_ | refine blk_alloc ?_ _)); refine blk_put (cs := #[.string t160, .string (⟨#[]⟩ : ByteArray)]) ?_ 1 _ rfl; (with_reducible repeat (first | refine blk_drewN ?_ _ | refine blk_drew ?_ | refine blk_alloc ?_ _)); refine blk_put (cs := #[.string (⟨#[]⟩ : ByteArray), .string (⟨#[]⟩ : ByteArray)]) ?_ 0 _ rfl; (with_reducible repeat (first | refine blk_drewN ?_ _ | refine blk_drew ?_ | refine blk_alloc ?_ _)); exact BK155.out) Tryz.underlying49 rfl (by kernel_rfl)) rfl ?_
    exact ⟨by first | rfl | (simp [errW_none, errW_some, bne_nil_] <;> rfl) | (simp [*, errW_none, errW_some] <;> rfl), by repeat (first | (with_reducible first | exact HB.out | apply below_alloc | apply pw_below_drewN | apply below_drew1 | refine below_set ?_ GE155.out) | exact HB.out)⟩

end Go.Proofs.YteonhdfjfjpbjaaGreatDoor.P

/- By -/
namespace Go.Proofs.YteonhdfjfjpbjaaGreatDoor.Sp
open Go Go.RowKit Go.Proofs.YteonhdfjfjpbjaaGreatDoorW.PrintWords Go.Proofs.YteonhdfjfjpbjaaGreatDoorW.PrintLast Go.Proofs.YteonhdfjfjpbjaaGreatDoor.O
set_option linter.unusedVariables false
set_option linter.unusedSimpArgs false

def mk (l : L) : ByteArray := ⟨l.toArray⟩
theorem mk_data (l : L) : (mk l).data.toList = l := by simp [mk]
theorem mk_self (s : ByteArray) : mk s.data.toList = s := by cases s; simp [mk]
theorem ba_ext {a b : ByteArray} (h : a.data.toList = b.data.toList) : a = b := by rw [← mk_self a, ← mk_self b, h]
theorem mk_size (l : L) : (mk l).size = l.length := by rw [Lib.size_eq, mk_data]
theorem mk_append (a b : L) : mk a ++ mk b = mk (a ++ b) := ba_ext (by simp [mk_data])
theorem mk_inj {a b : L} (h : mk a = mk b) : a = b := by rw [← mk_data a, ← mk_data b, h]
theorem ext_sub (s : ByteArray) (a b : Nat) : s.extract a b = mk ((s.data.toList.drop a).take (b - a)) := ba_ext (by rw [Lib.extract_data, mk_data])
theorem ext_mk (l : L) (a b : Nat) : (mk l).extract a b = mk ((l.drop a).take (b - a)) := by rw [ext_sub, mk_data]
theorem ext_to (l : L) (a : Nat) : (mk l).extract 0 a = mk (l.take a) := by rw [ext_mk]; rfl
theorem ext_from (l : L) (a : Nat) : (mk l).extract a (mk l).size = mk (l.drop a) := by rw [ext_mk, mk_size, List.take_of_length_le (by rw [List.length_drop]; omega)]
theorem tl (s : ByteArray) : s.toList = s.data.toList := Lib.toList_data s
theorem tl_mk (l : L) : (mk l).toList = l := by rw [tl, mk_data]
theorem wrap_id {x : Int} (h1 : -9223372036854775808 ≤ x) (h2 : x ≤ 9223372036854775807) : wrap64 x = x := by unfold wrap64; omega
/-- The byte at a place, the rest of the text beside it. -/
theorem drop_bt (s : ByteArray) (i : Nat) (h : i < s.size) : ∃ b : UInt8, s.data.toList.drop i = b :: s.data.toList.drop (i + 1) ∧ bt s i = b.toNat := by
  have h' : i < s.data.toList.length := by rw [← Lib.size_eq]; exact h
  refine ⟨s.data.toList[i], List.drop_eq_getElem_cons h', ?_⟩
  rw [← bt_getD s i h, List.getD_eq_getElem?_getD, List.getElem?_eq_getElem h']
  rfl
theorem mk_bt (l : L) (i : Nat) (h : i < l.length) : ∃ b : UInt8, l.drop i = b :: l.drop (i + 1) ∧ bt (mk l) i = b.toNat := by
  have := drop_bt (mk l) i (by rw [mk_size]; exact h)
  rwa [mk_data] at this
theorem bt_head (c : UInt8) (r : L) : bt (mk (c :: r)) 0 = c.toNat := by
  obtain ⟨b, e1, e2⟩ := mk_bt (c :: r) 0 (by simp)
  simp at e1
  rw [← e1] at e2
  exact e2
theorem u8_eq (c : UInt8) (n : Nat) (h : n < 256) : c.toNat = n ↔ c = UInt8.ofNat n := by
  constructor
  · intro e
    apply UInt8.toNat_inj.1
    rw [e, UInt8.toNat_ofNat']
    omega
  · intro e
    rw [e, UInt8.toNat_ofNat']
    omega
theorem u8i (c : UInt8) (n : Nat) (h : n < 256) : ((c.toNat : Int) = (n : Int)) ↔ c = UInt8.ofNat n := by
  rw [← u8_eq c n h]
  omega
theorem wf_u8 {x : Int} (h : (Lit.int .u8 x).wf = true) : 0 ≤ x ∧ x < 256 := by
  have h' : IntKind.u8.min ≤ x ∧ x ≤ IntKind.u8.max := by simpa [Lit.wf] using h
  rw [show IntKind.u8.min = 0 from by decide, show IntKind.u8.max = 255 from by decide] at h'
  omega
theorem wf_u16 {x : Int} (h : (Lit.int .u16 x).wf = true) : 0 ≤ x ∧ x ≤ 65535 := by
  have h' : IntKind.u16.min ≤ x ∧ x ≤ IntKind.u16.max := by simpa [Lit.wf] using h
  rw [show IntKind.u16.min = 0 from by decide, show IntKind.u16.max = 65535 from by decide] at h'
  omega
def pairsB (l : List (L × L)) : List P.S49 := l.map fun p => ⟨mk p.1, mk p.2⟩
theorem pairsB_app (a b : List (L × L)) : pairsB (a ++ b) = pairsB a ++ pairsB b := by simp [pairsB]
theorem pairsB_len (a : List (L × L)) : (pairsB a).length = a.length := by simp [pairsB]
theorem pairsB_nil : pairsB [] = [] := rfl
end Go.Proofs.YteonhdfjfjpbjaaGreatDoor.Sp

/- SpC -/
namespace Go.Proofs.YteonhdfjfjpbjaaGreatDoor.Sp
open Go Go.RowKit Go.Proofs.YteonhdfjfjpbjaaGreatDoorW.PrintWords Go.Proofs.YteonhdfjfjpbjaaGreatDoorW.PrintLast Go.Proofs.YteonhdfjfjpbjaaGreatDoor.O Go.Proofs.YteonhdfjfjpbjaaGreatDoor.P
set_option linter.unusedVariables false
set_option linter.unusedSimpArgs false

/-! ### Tokens -/
theorem sig_all : ∀ a : Fin 256, (decide (Lib.indexByte signs (UInt8.ofNat a.val) ≥ 0)) = signs.contains (UInt8.ofNat a.val) := by decide +kernel
theorem u8_fin (c : UInt8) : ∃ a : Fin 256, c = UInt8.ofNat a.val := ⟨⟨c.toNat, c.toNat_lt⟩, by simp⟩
theorem sig_index (c : UInt8) : Lib.indexByte signs c ≥ 0 ↔ tokB c = true := by
  obtain ⟨a, rfl⟩ := u8_fin c
  have := sig_all a
  unfold tokB
  rw [← this]
  simp
theorem sigF (c : UInt8) : strings_IndexByte.f (mk signs) (c.toNat : Int) = some (Lib.indexByte signs c) := by
  unfold strings_IndexByte.f
  rw [mk_data]
  congr 2
  simp
theorem take_tw (p : UInt8 → Bool) (s : L) : s.take (s.takeWhile p).length = s.takeWhile p := by
  have h : s.takeWhile p ++ s.dropWhile p = s := List.takeWhile_append_dropWhile
  generalize s.takeWhile p = a at *
  generalize s.dropWhile p = b at *
  subst h
  simp
theorem drop_tw (p : UInt8 → Bool) (s : L) : s.drop (s.takeWhile p).length = s.dropWhile p := by
  have h : s.takeWhile p ++ s.dropWhile p = s := List.takeWhile_append_dropWhile
  generalize s.takeWhile p = a at *
  generalize s.dropWhile p = b at *
  subst h
  simp
theorem tw_len (p : UInt8 → Bool) (s : L) : (s.takeWhile p).length ≤ s.length := by
  have h : s.takeWhile p ++ s.dropWhile p = s := List.takeWhile_append_dropWhile
  have := congrArg List.length h
  rw [List.length_append] at this
  omega
theorem dw_len (p : UInt8 → Bool) (s : L) : (s.dropWhile p).length ≤ s.length := by
  have h : s.takeWhile p ++ s.dropWhile p = s := List.takeWhile_append_dropWhile
  have := congrArg List.length h
  rw [List.length_append] at this
  omega
theorem tok_l0 (s : L) (hs : s.length ≤ 1000000000000) : ∀ (d k i : Nat), i + d = s.length → d < k →
    media_Text_Token.l0 k i (mk s) = some (mk (s.take (i + ((s.drop i).takeWhile tokB).length)), mk (s.drop (i + ((s.drop i).takeWhile tokB).length))) := by
  intro d
  induction d with
  | zero =>
    intro k i hi hk
    obtain ⟨k, rfl⟩ : ∃ k', k = k' + 1 := ⟨k - 1, by omega⟩
    rw [media_Text_Token.l0, if_neg (by rw [mk_size]; omega), if_pos (by omega), if_pos (by rw [mk_size]; omega), List.drop_eq_nil_of_le (by omega)]
    simp only [Int.toNat_natCast, List.takeWhile_nil, List.length_nil, Nat.add_zero, ext_to, ext_from]
  | succ d ih =>
    intro k i hi hk
    obtain ⟨k, rfl⟩ : ∃ k', k = k' + 1 := ⟨k - 1, by omega⟩
    obtain ⟨b, e1, e2⟩ := mk_bt s i (by omega)
    have hw : wrap64 ((i : Int) + 1) = ((i + 1 : Nat) : Int) := by rw [wrap_id (by omega) (by omega)]; omega
    rw [media_Text_Token.l0, if_pos (by rw [mk_size]; omega), if_pos (by omega), e2]
    rw [show (⟨#[48, 49, 50, 51, 52, 53, 54, 55, 56, 57, 65, 66, 67, 68, 69, 70, 71, 72, 73, 74, 75, 76, 77, 78, 79, 80, 81, 82, 83, 84, 85, 86, 87, 88, 89, 90, 97, 98, 99, 100, 101, 102, 103, 104, 105, 106, 107, 108, 109, 110, 111, 112, 113, 114, 115, 116, 117, 118, 119, 120, 121, 122, 33, 35, 36, 37, 38, 39, 42, 43, 45, 46, 94, 95, 96, 124, 126]⟩ : ByteArray) = mk signs from rfl, sigF]
    simp only [Option.bind_some]
    by_cases ht : tokB b = true
    · rw [if_pos ((sig_index b).2 ht), hw, ih k (i + 1) (by omega) (by omega), e1, List.takeWhile_cons_of_pos ht]
      simp only [List.length_cons]
      rw [show i + 1 + ((s.drop (i + 1)).takeWhile tokB).length = i + (((s.drop (i + 1)).takeWhile tokB).length + 1) by omega]
    · rw [if_neg (fun h => ht ((sig_index b).1 h)), if_pos (by rw [mk_size]; omega), e1, List.takeWhile_cons_of_neg ht]
      simp only [Int.toNat_natCast, List.length_nil, Nat.add_zero, ext_to, ext_from]
theorem tokF (s : L) (k : Nat) (hs : s.length ≤ 1000000000000) (hk : s.length < k) : media_Text_Token.f k (mk s) = some (mk (tok s).1, mk (tok s).2) := by
  unfold media_Text_Token.f
  have := tok_l0 s hs s.length k 0 (by omega) hk
  simp only [List.drop_zero, Nat.zero_add] at this
  rw [show (0 : Int) = ((0 : Nat) : Int) from rfl, this, take_tw, drop_tw]
  rfl
def isTok (s : L) : Bool := decide ((tok s).1 ≠ []) && decide ((tok s).2 = [])
theorem isTokF (s : L) (k : Nat) (hs : s.length ≤ 1000000000000) (hk : s.length < k) : field_token.f k (mk s) = some (isTok s) := by
  unfold field_token.f isTok
  rw [tokF s k hs hk]
  simp only [Option.bind_some, tl_mk]
  by_cases h : (tok s).1 = []
  · rw [if_pos h]; simp [h]
  · rw [if_neg h]
    simp [h]
    by_cases h2 : (tok s).2 = [] <;> simp [h2]

/-! ### Trimming -/
theorem bl_all : ∀ a : Fin 256, ([32, 9] : L).contains (UInt8.ofNat a.val) = bl (UInt8.ofNat a.val) := by decide +kernel
theorem bl_eq : ([32, 9].contains · : UInt8 → Bool) = bl := by
  funext c
  obtain ⟨a, rfl⟩ := u8_fin c
  exact bl_all a
theorem mem_tw {p : UInt8 → Bool} : ∀ {s : L} {x : UInt8}, x ∈ s.takeWhile p → p x = true
  | [], _, h => by simp at h
  | c :: s, x, h => by
    by_cases hc : p c = true
    · rw [List.takeWhile_cons_of_pos hc] at h
      rcases List.mem_cons.1 h with rfl | h
      · exact hc
      · exact mem_tw h
    · rw [List.takeWhile_cons_of_neg hc] at h
      simp at h
theorem rd_app (a b : L) (h : skip b.reverse ≠ []) : skip (a ++ b).reverse = skip b.reverse ++ a.reverse := by
  unfold skip at *
  rw [List.reverse_append]
  generalize b.reverse = u at *
  induction u with
  | nil => simp at h
  | cons c u ih =>
    by_cases hc : bl c = true
    · rw [List.dropWhile_cons_of_pos hc] at h
      rw [List.cons_append, List.dropWhile_cons_of_pos hc, List.dropWhile_cons_of_pos hc]
      exact ih h
    · rw [List.cons_append, List.dropWhile_cons_of_neg hc, List.dropWhile_cons_of_neg hc, List.cons_append]
theorem skip_nil {s : L} (h : skip s = []) : ∀ c ∈ s, bl c = true := by
  induction s with
  | nil => simp
  | cons c s ih =>
    unfold skip at h ih
    by_cases hc : bl c = true
    · rw [List.dropWhile_cons_of_pos hc] at h
      intro d hd
      rcases List.mem_cons.1 hd with rfl | hd
      · exact hc
      · exact ih h d hd
    · rw [List.dropWhile_cons_of_neg hc] at h
      simp at h
theorem skip_all {s : L} (h : ∀ c ∈ s, bl c = true) : skip s = [] := by
  induction s with
  | nil => rfl
  | cons c s ih =>
    unfold skip at ih ⊢
    rw [List.dropWhile_cons_of_pos (h c (by simp))]
    exact ih (fun d hd => h d (by simp [hd]))
theorem skip_head {s : L} (h : skip s ≠ []) : ∃ c r, skip s = c :: r ∧ bl c = false := by
  induction s with
  | nil => simp [skip] at h
  | cons c s ih =>
    unfold skip at h ih ⊢
    by_cases hc : bl c = true
    · rw [List.dropWhile_cons_of_pos hc] at h ⊢
      exact ih h
    · rw [List.dropWhile_cons_of_neg hc]
      exact ⟨c, s, rfl, by simpa using hc⟩
theorem trim_comm (s : L) : skip (skip s.reverse).reverse = trim s := by
  unfold trim
  by_cases h : skip s = []
  · have ha := skip_nil h
    rw [h, skip_all (s := s.reverse) (fun c hc => ha c (List.mem_reverse.1 hc))]
    rfl
  · obtain ⟨c, r, e, hc⟩ := skip_head h
    have hs : s = s.takeWhile bl ++ skip s := (List.takeWhile_append_dropWhile).symm
    have hne : skip (skip s).reverse ≠ [] := by
      intro e2
      have := skip_nil e2 c (by rw [e]; simp)
      rw [hc] at this
      simp at this
    have h1 : skip s.reverse = skip (skip s).reverse ++ (s.takeWhile bl).reverse := by
      conv => lhs; rw [hs]
      exact rd_app _ _ hne
    rw [h1, List.reverse_append, List.reverse_reverse]
    -- the head that is kept is no blank
    have hb : ∀ x ∈ s.takeWhile bl, bl x = true := fun x hx => mem_tw hx
    have hk : ∃ d t, (skip (skip s).reverse).reverse = d :: t ∧ bl d = false := by
      have hpre : ∃ t, (skip s).reverse = t ++ skip (skip s).reverse := ⟨(skip s).reverse.takeWhile bl, (List.takeWhile_append_dropWhile).symm⟩
      obtain ⟨t, ht⟩ := hpre
      have h3 := congrArg List.reverse ht
      rw [List.reverse_reverse, List.reverse_append] at h3
      cases e4 : (skip (skip s).reverse).reverse with
      | nil => exact absurd (List.reverse_eq_nil_iff.1 e4) hne
      | cons d u =>
        rw [e4, e] at h3
        simp at h3
        exact ⟨d, u, rfl, by rw [← h3.1]; exact hc⟩
    obtain ⟨d, t, e5, hd⟩ := hk
    rw [e5]
    generalize s.takeWhile bl = a at *
    clear h1 hs
    induction a with
    | nil =>
      show skip (d :: t) = d :: t
      unfold skip
      rw [List.dropWhile_cons_of_neg (by rw [hd]; simp)]
    | cons x a ih =>
      have hx := hb x (by simp)
      unfold skip at ih ⊢
      rw [List.cons_append, List.dropWhile_cons_of_pos hx]
      exact ih (fun y hy => hb y (by simp [hy]))
theorem trimS_eq (s : L) : Lib.trimS s [32, 9] = trim s := by
  unfold Lib.trimS Lib.trimLeftS Lib.trimRightS
  rw [bl_eq, ← trim_comm]
  rfl
theorem trimF (s : L) (hs : s.length ≤ 1000000000000) : strings_Trim.f (mk s) (⟨#[32, 9]⟩ : ByteArray) = some (mk (trim s)) := by
  unfold strings_Trim.f
  rw [if_pos ⟨by rw [mk_size]; omega, by decide, by decide⟩, mk_data]
  have e : ((⟨#[32, 9]⟩ : ByteArray).data.toList) = [32, 9] := rfl
  rw [e, trimS_eq]
  rfl
theorem skipF (s : L) : strings_TrimLeft.f (mk s) (⟨#[32, 9]⟩ : ByteArray) = some (mk (skip s)) := by
  unfold strings_TrimLeft.f
  rw [if_pos ⟨by decide, by decide⟩, mk_data]
  have e : ((⟨#[32, 9]⟩ : ByteArray).data.toList) = [32, 9] := rfl
  rw [e]
  unfold Lib.trimLeftS
  rw [bl_eq]
  rfl
theorem skip_len (s : L) : (skip s).length ≤ s.length := dw_len _ _
theorem trim_len (s : L) : (trim s).length ≤ s.length := by
  unfold trim
  have h1 := skip_len (skip s).reverse
  have h2 := skip_len s
  rw [List.length_reverse] at h1 ⊢
  omega

/-! ### Letters made small -/
theorem lowI_b (c : UInt8) : UInt8.ofNat (lowI c.toNat).toNat = lowB c := by
  have h := c.toNat_lt
  unfold lowI lowB
  by_cases hc : 65 ≤ c.toNat ∧ c.toNat ≤ 90
  · rw [if_pos hc, if_pos (by omega)]
    congr 1
  · rw [if_neg hc, if_neg (by omega)]
    simp
theorem range_map (s : L) (f : UInt8 → UInt8) (g : Nat → Int) (h : ∀ (j : Nat) (hj : j < s.length), UInt8.ofNat (g j).toNat = f s[j]) : ((List.range s.length).map g).map (fun x => UInt8.ofNat x.toNat) = s.map f := by
  apply List.ext_getElem
  · simp
  · intro j h1 h2
    simp at h1 h2 ⊢
    exact h j h2
theorem lowF (s : L) (hs : s.length ≤ 1000000000000) : media_Small.f (mk s) = some (mk (low s)) := by
  unfold media_Small.f
  rw [if_pos (by rw [mk_size]; omega)]
  congr 1
  unfold strOfNums smallAt low
  apply ba_ext
  rw [mk_data, mk_size]
  simp only [List.toList_toArray]
  refine range_map s lowB _ (fun j hj => ?_)
  obtain ⟨b, e1, e2⟩ := mk_bt s j hj
  have e3 : s[j] = b := by
    have := List.drop_eq_getElem_cons hj
    rw [e1] at this
    exact (List.cons.inj this).1.symm
  rw [if_pos hj, e2, e3, lowI_b]
theorem low_len (s : L) : (low s).length = s.length := by simp [low]

/-! ### Values -/
theorem badI_b (c : UInt8) : badI (c.toNat : Int) = ctl c := by
  unfold badI ctl
  have h9 : ((c.toNat : Int) == 9) = (c == 9) := by
    rw [Bool.eq_iff_iff, beq_iff_eq, beq_iff_eq, show (9 : Int) = ((9 : Nat) : Int) from rfl, u8i c 9 (by omega)]
    rfl
  have h127 : ((c.toNat : Int) == 127) = (c == 127) := by
    rw [Bool.eq_iff_iff, beq_iff_eq, beq_iff_eq, show (127 : Int) = ((127 : Nat) : Int) from rfl, u8i c 127 (by omega)]
    rfl
  have h32 : decide ((c.toNat : Int) < 32) = decide (c.toNat < 32) := by
    rw [Bool.eq_iff_iff, decide_eq_true_eq, decide_eq_true_eq]
    omega
  rw [h9, h127, h32]
theorem any_ctl (s : L) : (List.range (mk s).size).any (fun j => badI (bt (mk s) j)) = !s.all (fun c => !ctl c) := by
  rw [mk_size, Bool.eq_iff_iff, List.any_eq_true, Bool.not_eq_true', List.all_eq_false]
  constructor
  · rintro ⟨j, hj, h⟩
    have hj := List.mem_range.1 hj
    obtain ⟨b, e1, e2⟩ := mk_bt s j hj
    rw [e2, badI_b] at h
    exact ⟨b, List.mem_of_mem_drop (by rw [e1]; simp), by simp [h]⟩
  · rintro ⟨b, hb, h⟩
    obtain ⟨j, hj, rfl⟩ := List.getElem_of_mem hb
    obtain ⟨b, e1, e2⟩ := mk_bt s j hj
    have e3 : s[j] = b := by
      have := List.drop_eq_getElem_cons hj
      rw [e1] at this
      exact (List.cons.inj this).1.symm
    refine ⟨j, List.mem_range.2 hj, ?_⟩
    rw [e2, badI_b, ← e3]
    simpa using h
theorem fvalF (s : L) (hs : s.length ≤ 1000000000000) : field_value.f (mk s) = some (fval s) := by
  unfold field_value.f
  rw [if_pos (by rw [mk_size]; omega), any_ctl]
  unfold fval trimB
  congr 1
  rw [mk_data, trimS_eq]
  have e : (⟨(trim s).toArray⟩ : ByteArray) = mk (trim s) := rfl
  rw [e, tl_mk, tl_mk]
  cases s.all (fun c => !ctl c) with
  | false => simp
  | true => 
    simp
    rw [Bool.eq_iff_iff]
    simp

/-! ### Pairs -/
theorem cut_l (s sep : L) : strings_Cut.f (mk s) (mk sep) = if s.length < 4294967281 then some (mk (Lib.cut s sep).1, mk (Lib.cut s sep).2.1, (Lib.cut s sep).2.2) else none := by
  unfold strings_Cut.f cutF
  rw [mk_size, mk_data, mk_data]
  rfl
theorem index1_eq (c : UInt8) (r : L) : Lib.index (c :: r) [c] = 0 := by simp [Lib.index, List.isPrefixOf]
theorem index1_other (c x : UInt8) (r : L) (h : x ≠ c) : Lib.index (x :: r) [c] = if Lib.index r [c] == -1 then -1 else Lib.index r [c] + 1 := by
  have h' : (c == x) = false := by simpa using fun e : c = x => h e.symm
  simp [Lib.index, List.isPrefixOf, h']
theorem index1 (c : UInt8) : ∀ s : L, (c ∉ s ∧ Lib.index s [c] = -1) ∨ (∃ a b, s = a ++ c :: b ∧ c ∉ a ∧ Lib.index s [c] = a.length)
  | [] => .inl ⟨by simp, by simp [Lib.index]⟩
  | x :: r => by
    by_cases h : x = c
    · subst h
      exact .inr ⟨[], r, rfl, by simp, by rw [index1_eq]; rfl⟩
    · rw [index1_other c x r h]
      rcases index1 c r with ⟨e1, e2⟩ | ⟨a, b, e1, e2, e3⟩
      · rw [e2]
        exact .inl ⟨by simp [e1]; exact fun e => h e.symm, rfl⟩
      · rw [e3]
        have hb : ((a.length : Int) == -1) = false := by simp
        rw [hb, if_neg (by decide)]
        exact .inr ⟨x :: a, b, by simp [e1], by simp [e2]; exact fun e => h e.symm, by simp⟩
theorem cut1_none {c : UInt8} {s : L} (h : c ∉ s) : Lib.cut s [c] = (s, [], false) := by
  rcases index1 c s with ⟨e1, e2⟩ | ⟨a, b, e1, e2, e3⟩
  · unfold Lib.cut; rw [e2, if_neg (by omega)]
  · exact absurd (by rw [e1]; simp) h
theorem cut1_some {c : UInt8} (a b : L) (h : c ∉ a) : Lib.cut (a ++ c :: b) [c] = (a, b, true) := by
  rcases index1 c (a ++ c :: b) with ⟨e1, e2⟩ | ⟨a', b', e1, e2, e3⟩
  · exact absurd (by simp) e1
  · have hl : a = a' ∧ b = b' := by
      clear e3
      induction a generalizing a' with
      | nil =>
        cases a' with
        | nil => simp at e1; exact ⟨rfl, e1⟩
        | cons x a' => simp at e1; exact absurd (by simp [e1.1]) e2
      | cons y a ih =>
        cases a' with
        | nil => simp at e1; exact absurd (by simp [e1.1]) h
        | cons x a' =>
          simp at e1
          obtain ⟨rfl, e1⟩ := e1
          obtain ⟨h1, h2⟩ := ih (fun e => h (by simp [e])) a' e1 (fun e => e2 (by simp [e]))
          exact ⟨by rw [h1], h2⟩
    obtain ⟨rfl, rfl⟩ := hl
    unfold Lib.cut
    rw [e3, if_pos (by omega)]
    simp
theorem tok58 : tokB 58 = false := by decide
theorem tok_app {a b : L} {c : UInt8} (ha : ∀ x ∈ a, tokB x = true) (hc : tokB c = false) : tok (a ++ c :: b) = (a, c :: b) := by
  unfold tok
  induction a with
  | nil =>
    have hc' : ¬ tokB c = true := by rw [hc]; simp
    simp only [List.nil_append]
    rw [List.takeWhile_cons_of_neg hc', List.dropWhile_cons_of_neg hc']
  | cons x a ih =>
    have hx := ha x (by simp)
    have := ih (fun y hy => ha y (by simp [hy]))
    rw [List.cons_append, List.takeWhile_cons_of_pos hx, List.dropWhile_cons_of_pos hx]
    simp only [Prod.mk.injEq] at this
    rw [this.1, this.2]
theorem tok_all {a : L} (ha : ∀ x ∈ a, tokB x = true) : tok a = (a, []) := by
  unfold tok
  induction a with
  | nil => rfl
  | cons x a ih =>
    have hx := ha x (by simp)
    have := ih (fun y hy => ha y (by simp [hy]))
    rw [List.takeWhile_cons_of_pos hx, List.dropWhile_cons_of_pos hx]
    simp only [Prod.mk.injEq] at this
    rw [this.1, this.2]
theorem tok_parts (s : L) : s = (tok s).1 ++ (tok s).2 ∧ (∀ x ∈ (tok s).1, tokB x = true) ∧ (∀ c r, (tok s).2 = c :: r → tokB c = false) := by
  refine ⟨(List.takeWhile_append_dropWhile).symm, fun x hx => mem_tw hx, fun c r h => ?_⟩
  · unfold tok at h
    simp only at h
    induction s with
    | nil => simp at h
    | cons x s ih =>
      by_cases hx : tokB x = true
      · rw [List.dropWhile_cons_of_pos hx] at h
        exact ih h
      · rw [List.dropWhile_cons_of_neg hx] at h
        obtain ⟨rfl, rfl⟩ := List.cons.inj h
        simpa using hx
theorem isTok_iff (s : L) : isTok s = true ↔ s ≠ [] ∧ ∀ x ∈ s, tokB x = true := by
  obtain ⟨h1, h2, h3⟩ := tok_parts s
  unfold isTok
  simp only [Bool.and_eq_true, decide_eq_true_eq]
  constructor
  · rintro ⟨a, b⟩
    rw [b, List.append_nil] at h1
    exact ⟨by rw [h1]; exact a, by rw [h1]; exact h2⟩
  · rintro ⟨a, b⟩
    rw [tok_all b]
    exact ⟨a, rfl⟩
/-- What the program makes of a line. -/
def pairP (l : L) : L × L × Bool := (low (Lib.cut l [58]).1, trim (Lib.cut l [58]).2.1, (Lib.cut l [58]).2.2 && isTok (Lib.cut l [58]).1 && fval (trim (Lib.cut l [58]).2.1))
theorem pairP_eq (l : L) : pairOf l = if (pairP l).2.2 = true then some ((pairP l).1, (pairP l).2.1) else none := by
  obtain ⟨h1, h2, h3⟩ := tok_parts l
  unfold pairP pairOf
  rcases index1 58 l with ⟨e1, _⟩ | ⟨a, b, e1, e2, _⟩
  · rw [cut1_none e1]
    simp only [Bool.false_and]
    refine Eq.trans ?_ (if_neg (by decide)).symm
    by_cases q1 : (tok l).1 = []
    · rw [if_pos q1]
    · rw [if_neg q1, if_pos]
      intro q2
      apply e1
      rw [h1]
      cases e : (tok l).2 with
      | nil => rw [e] at q2; simp at q2
      | cons c r => rw [e] at q2; simp at q2; subst q2; simp
  · rw [e1, cut1_some a b e2]
    simp only [Bool.true_and]
    by_cases ha : ∀ x ∈ a, tokB x = true
    · rw [tok_app ha tok58]
      simp only [List.head?_cons, List.tail_cons]
      by_cases q1 : a = []
      · rw [if_pos q1, if_neg]
        simp [q1, isTok, tok]
      · have hi : isTok a = true := (isTok_iff a).2 ⟨q1, ha⟩
        rw [if_neg q1, hi, Bool.true_and]
        simp <;> rfl
    · have hi : isTok a = false := by
        rw [Bool.eq_false_iff]
        exact fun h => ha ((isTok_iff a).1 h).2
      rw [hi, Bool.false_and]
      refine Eq.trans ?_ (if_neg (by decide)).symm
      rw [← e1]
      by_cases q1 : (tok l).1 = []
      · rw [if_pos q1]
      · rw [if_neg q1, if_pos]
        intro q2
        apply ha
        -- the token would end at the first 58
        cases e : (tok l).2 with
        | nil => rw [e] at q2; simp at q2
        | cons c r =>
          rw [e] at q2
          simp at q2
          subst q2
          rw [e, e1] at h1
          have hn : (58 : UInt8) ∉ (tok (a ++ 58 :: b)).1 := fun h => by
            have := h2 58 (by rw [e1]; exact h)
            rw [tok58] at this
            simp at this
          have c1 := cut1_some a b e2
          have c2 := cut1_some (tok (a ++ 58 :: b)).1 r hn
          rw [← h1, c1] at c2
          have c3 := (Prod.mk.inj c2).1
          intro x hx
          rw [c3] at hx
          exact h2 x (by rw [e1]; exact hx)
theorem pairF (l : L) (k : Nat) (hl : l.length < 4294967281) (hk : l.length < k) : field_pair.f k (mk l) = some (mk (pairP l).1, mk (pairP l).2.1, (pairP l).2.2) := by
  have hc : (Lib.cut l [58]).1.length ≤ l.length ∧ (Lib.cut l [58]).2.1.length ≤ l.length := by
    rcases index1 58 l with ⟨e1, _⟩ | ⟨a, b, e1, e2, _⟩
    · rw [cut1_none e1]; simp
    · rw [e1, cut1_some a b e2]; simp; omega
  unfold field_pair.f pairP
  rw [show (⟨#[58]⟩ : ByteArray) = mk [58] from rfl, cut_l, if_pos hl]
  generalize Lib.cut l [58] = q at *
  obtain ⟨x, y, z⟩ := q
  simp only [Option.bind_some] at hc ⊢
  have ht := trim_len y
  rw [trimF y (by omega)]
  simp only [Option.bind_some]
  rw [lowF x (by omega)]
  simp only [Option.bind_some]
  cases z with
  | false => simp
  | true =>
    rw [if_pos rfl, isTokF x k (by omega) (by omega)]
    simp only [Option.bind_some, Bool.true_and]
    cases isTok x with
    | false => simp
    | true =>
      rw [if_pos rfl, fvalF _ (by omega)]
      simp
end Go.Proofs.YteonhdfjfjpbjaaGreatDoor.Sp

/- Ofld -/
namespace Go.Proofs.YteonhdfjfjpbjaaGreatDoor.O
open Go.RowKit Go.Shelf Go.Proofs.YteonhdfjfjpbjaaGreatDoorW.PrintWords Go.Proofs.YteonhdfjfjpbjaaGreatDoorW.PrintLast Go.Proofs.YteonhdfjfjpbjaaGreatDoorW.PrintMore Go.Proofs.YteonhdfjfjpbjaaGreatDoor.P Go.Proofs.YteonhdfjfjpbjaaGreatDoor.Sp
attribute [local go_sem] Oper.semAt_some
set_option linter.unusedVariables false
set_option linter.unusedSimpArgs false

def flatV (l : List (Sp.L × Sp.L)) : List Value := l.flatMap fun p => [.string (Sp.mk p.1), .string (Sp.mk p.2)]
def fieldsB (s : ByteArray) : List S49 × ByteArray × Int := (pairsB (Sp.fields s.data.toList).1, Sp.mk (Sp.fields s.data.toList).2.1, (Sp.fields s.data.toList).2.2)
def field_Parse.f (a0 : ByteArray) : Option (List S49 × ByteArray × Int) := if a0.size < 4294967281 then some (fieldsB a0) else none
theorem flat_reps (w : World) (base : Nat) (ok : Nat → Prop) : ∀ l, Reps (k49.M w base ok) 2 (pairsB l) (flatV l)
  | [] => Reps.none _ _
  | p :: l => by
    have h1 : Reps (k49.M w base ok) 2 ([] ++ [⟨Sp.mk p.1, Sp.mk p.2⟩]) ([] ++ [.string (Sp.mk p.1), .string (Sp.mk p.2)]) := (Reps.none _ _).snoc (k49_mkM w base ok _) rfl
    exact Kd.reps_append h1 (flat_reps w base ok l)
theorem flat_row {w : World} {base : Nat} {v : Value} {l : List (Sp.L × Sp.L)} (h : w.ownsRow base 49 2 v l.length (flatV l)) : Kd.R k49 49 w base (fun _ => True) v (pairsB l) :=
  ⟨fun _ _ => trivial, flatV l, by rw [show (pairsB l).length = l.length from by simp [pairsB]]; exact h, flat_reps _ _ _ l⟩
theorem lines_in (n : Nat) (s : ByteArray) (w : World) : CallsIn Fence.wide n Tryz.prog 61 #[.string s] w fun e w' => e = .returned (.func (.func 97) #[] #[.pointer (some ⟨w.heap.size, 0, none⟩)]) ∧ w' = w.alloc (.cells #[.string s] 9) := by
  refine callsIn_of_wp Tryz.func61 rfl trivial ?_ rfl
  simp only [Tryz.ntmps61, List.size_toArray, List.length_cons, List.length_nil, Nat.reduceAdd, Nat.reduceSub, Array.replicate_succ, Array.replicate_zero, List.push_toArray, List.append_toArray, List.nil_append, List.cons_append]
  gi_wp2
  go_ret
  exact ⟨rfl, rfl⟩
/-- What lies between two rounds. N: the whole text's length; R: what the parser comes to. -/
structure Between (w : World) (a0 : ByteArray) (R : List (Sp.L × Sp.L) × Sp.L × Int) (cur : ByteArray) (W : World) : Prop where
  row : ∃ f acc v, Sp.fparse a0.size f cur.data.toList acc = R ∧ cur.size < f ∧ acc.length + cur.size ≤ a0.size ∧ Boxed W (w.heap.size + 1) 34 v ∧ W.ownsRow w.heap.size 49 2 v acc.length (flatV acc)
  s : Boxed W w.heap.size 9 (.string a0)
  rest : Boxed W (w.heap.size + 2) 9 (.string ⟨#[]⟩)
  e : Boxed W (w.heap.size + 3) 24 (.int .i64 0)
  it : ∃ u, Boxed W (w.heap.size + 4) 9 u
  bel : Below w.heap.size w W
/-- How the rounds were left. -/
structure Left (w : World) (a0 : ByteArray) (R : List (Sp.L × Sp.L) × Sp.L × Int) (c : Code) (W : World) : Prop where
  how : (c = .exit 0 ∧ R = ([], [], if a0.size > 8000 then 2 else 180) ∧ (∃ v, Boxed W (w.heap.size + 1) 34 v) ∧ Boxed W (w.heap.size + 2) 9 (.string ⟨#[]⟩) ∧ Boxed W (w.heap.size + 3) 24 (.int .i64 0)) ∨
    (c = .ret ∧ (∃ v, Boxed W (w.heap.size + 1) 34 v ∧ W.ownsRow w.heap.size 49 2 v R.1.length (flatV R.1)) ∧ Boxed W (w.heap.size + 2) 9 (.string (Sp.mk R.2.1)) ∧ Boxed W (w.heap.size + 3) 24 (.int .i64 R.2.2))
  s : Boxed W w.heap.size 9 (.string a0)
  bel : Below w.heap.size w W
theorem Between.own (w : World) (a0 : ByteArray) (R) : OwnFrom (w.heap.size + 5) (Between w a0 R) := by
  intro cur W W' row h hg hr
  have kb : ∀ {B t v}, Boxed W B t v → B < w.heap.size + 5 → Boxed W' B t v := fun hb hlt => hb.kept hg (fun e => by have := (hr _ e.symm).1; omega)
  obtain ⟨⟨f, acc, v, h1, h2, h3, h4, h5⟩, hs, hrest, he, ⟨u, hit⟩, hbel⟩ := h
  refine ⟨⟨f, acc, v, h1, h2, h3, kb h4 (by omega), ?_⟩, kb hs (by omega), kb hrest (by omega), kb he (by omega), ⟨u, kb hit (by omega)⟩, hbel.grown hg hbel.size (fun k e => by have := (hr k e).1; omega)⟩
  refine own_move h5 (fun k hk => hg.block k (own_lt h5 k hk) (fun e => ?_))
  obtain ⟨o, ho, hc⟩ := (hr k e.symm).2
  obtain ⟨cells, hcell⟩ := own_typed h5 k hk
  rw [hcell] at ho
  injection ho with ho
  subst ho
  simp [Obj.isCells] at hc
theorem Left.own (w : World) (a0 : ByteArray) (R) : OwnFrom (w.heap.size + 5) (Left w a0 R) := by
  intro c W W' row h hg hr
  have kb : ∀ {B t v}, Boxed W B t v → B < w.heap.size + 5 → Boxed W' B t v := fun hb hlt => hb.kept hg (fun e => by have := (hr _ e.symm).1; omega)
  obtain ⟨hh, hs, hbel⟩ := h
  refine ⟨?_, kb hs (by omega), hbel.grown hg hbel.size (fun k e => by have := (hr k e).1; omega)⟩
  rcases hh with ⟨e1, e2, ⟨v, hv⟩, h2, h3⟩ | ⟨e1, ⟨v, hv, h5⟩, h2, h3⟩
  · exact .inl ⟨e1, e2, ⟨v, kb hv (by omega)⟩, kb h2 (by omega), kb h3 (by omega)⟩
  · refine .inr ⟨e1, ⟨v, kb hv (by omega), ?_⟩, kb h2 (by omega), kb h3 (by omega)⟩
    refine own_move h5 (fun k hk => hg.block k (own_lt h5 k hk) (fun e => ?_))
    obtain ⟨o, ho, hc⟩ := (hr k e.symm).2
    obtain ⟨cells, hcell⟩ := own_typed h5 k hk
    rw [hcell] at ho
    injection ho with ho
    subst ho
    simp [Obj.isCells] at hc
theorem Between.stays (w : World) (a0 : ByteArray) (R) (cur : ByteArray) : Stays (w.heap.size + 4) (Between w a0 R cur) := by
  constructor
  · intro W x h
    obtain ⟨⟨f, acc, v, h1, h2, h3, h4, h5⟩, hs, hrest, he, ⟨u, hit⟩, hbel⟩ := h
    refine ⟨⟨f, acc, v, h1, h2, h3, h4.other (by omega) _, ?_⟩, hs.other (by omega) _, hrest.other (by omega) _, he.other (by omega) _, ⟨x, hit.set x⟩, hbel.setCell (p := ⟨w.heap.size + 4, 0, none⟩) (by show w.heap.size ≤ w.heap.size + 4; omega) x⟩
    refine own_move h5 (fun k hk => Below.heap_setCell W _ x k (fun e => ?_))
    obtain ⟨cells, hcell⟩ := own_typed h5 k hk
    have hB : W.heap[w.heap.size + 4]? = some (.cells #[u] 9 (0, 0)) := hit
    rw [e, hB] at hcell
    injection hcell with hcell
    injection hcell with _ h9 _
    revert h9
    decide
  · intro W k h
    obtain ⟨hrow, hs, hrest, he, hit, hbel⟩ := h
    exact ⟨hrow, hs, hrest, he, hit, ⟨hbel.1, hbel.2, hbel.3, hbel.4, hbel.5⟩⟩
theorem line_of {cur x y : ByteArray} (h : lineB cur = some (x, y)) : Sp.line cur.data.toList = some (x.data.toList, y.data.toList) := by
  unfold lineB at h
  cases e : Sp.line cur.data.toList with
  | none => rw [e] at h; simp at h
  | some p =>
    rw [e] at h
    simp only [Option.map_some, Option.some.injEq, Prod.mk.injEq] at h
    obtain ⟨rfl, rfl⟩ := h
    rfl
theorem fparse_step (N f : Nat) (cur x y : ByteArray) (acc : List (Sp.L × Sp.L)) (h : lineB cur = some (x, y)) : Sp.fparse N (f + 1) cur.data.toList acc =
    if N - y.size > 8000 then ([], [], if N > 8000 then 2 else 180) else if x.data.toList = [] then (acc, y.data.toList, 0) else if (Sp.pairP x.data.toList).2.2 = true then Sp.fparse N f y.data.toList (acc ++ [((Sp.pairP x.data.toList).1, (Sp.pairP x.data.toList).2.1)]) else ([], [], 180) := by
  rw [Sp.fparse, line_of h]
  simp only
  rw [← Lib.size_eq, Sp.pairP_eq]
  by_cases h1 : N - y.size > 8000
  · rw [if_pos h1, if_pos h1]
  · rw [if_neg h1, if_neg h1]
    by_cases h2 : x.data.toList = []
    · rw [if_pos h2, if_pos h2]
    · rw [if_neg h2, if_neg h2]
      cases h3 : (Sp.pairP x.data.toList).2.2 <;> simp
theorem fparse_stop (N f : Nat) (cur : ByteArray) (acc : List (Sp.L × Sp.L)) (h : lineB cur = none) : Sp.fparse N (f + 1) cur.data.toList acc = ([], [], if N > 8000 then 2 else 180) := by
  have e : Sp.line cur.data.toList = none := by
    unfold lineB at h
    cases e : Sp.line cur.data.toList with
    | none => rfl
    | some p => rw [e] at h; simp at h
  rw [Sp.fparse, e]
theorem bx_below {W W1 : World} {B : Nat} {t : TypeId} {v : Value} (h : Boxed W B t v) (hb : Below W.heap.size W W1) : Boxed W1 B t v := (hb.block B h.lt).trans h
theorem bx_set {W : World} {B : Nat} {t : TypeId} {v : Value} (h : Boxed W B t v) (p : Addr) (hne : B ≠ p.block) (x : Value) : Boxed (W.setCell p x) B t v := (Below.heap_setCell W p x B hne).trans h
theorem keeps_below {W W1 : World} (hb : Below W.heap.size W W1) (N : Nat) : KeepsFrom N W W1 := ⟨hb.size, fun k o _ hk _ => (hb.block k (Array.getElem?_eq_some_iff.1 hk).1).trans hk⟩
theorem row_below {W W1 : World} {base k : Nat} {e : TypeId} {v : Value} {xs : List Value} (h : W.ownsRow base e 2 v k xs) (hb : Below W.heap.size W W1) : W1.ownsRow base e 2 v k xs := own_move h (fun j hj => hb.block j (own_lt h j hj))
theorem cells_two (w : World) (o : Obj) (x y : Value) : ∀ (j : Nat) u, [x, y][j]? = some u → ((w.alloc o).alloc (.cells #[x, y] 49)).cell? ((⟨w.heap.size + 1, 0, none⟩ : Addr).add j) = some u := by
  intro j u hj
  have e : w.heap.size + 1 = (w.alloc o).heap.size := (World.size_alloc _ _).symm
  match j, hj with
  | 0, hj =>
    simp at hj
    subst hj
    rw [e]
    simp [Addr.add]
  | 1, hj =>
    simp at hj
    subst hj
    rw [e]
    simp [Addr.add]
theorem own_slice {W : World} {base k : Nat} {e : TypeId} {v : Value} {xs : List Value} (h : W.ownsRow base e 2 v k xs) : ∃ A c, v = .slice A k c := by
  rcases h.2 with ⟨rfl, rfl⟩ | ⟨g, cap, cur, rfl, _⟩
  · exact ⟨none, 0, rfl⟩
  · exact ⟨_, cap, rfl⟩
theorem row_far {W : World} {base k B : Nat} {t : TypeId} {u x v : Value} {xs : List Value} (h : W.ownsRow base 49 2 v k xs) (hb : Boxed W B t u) (ht : t ≠ 49) : (W.setCell ⟨B, 0, none⟩ x).ownsRow base 49 2 v k xs := by
  refine own_move h (fun j hj => Below.heap_setCell W _ x j (fun e => ?_))
  obtain ⟨cells, hcell⟩ := own_typed h j hj
  have hB : W.heap[B]? = some (.cells #[u] t (0, 0)) := hb
  rw [e, hB] at hcell
  injection hcell with hcell
  injection hcell with _ h9 _
  exact ht h9
theorem row_set3 {w W : World} {k : Nat} {v u1 u2 u3 x1 x2 x3 : Value} {xs : List Value} (h : W.ownsRow w.heap.size 49 2 v k xs) (h1 : Boxed W (w.heap.size + 1) 34 u1) (h2 : Boxed W (w.heap.size + 2) 9 u2) (h3 : Boxed W (w.heap.size + 3) 24 u3) :
    (((W.setCell ⟨w.heap.size + 1, 0, none⟩ x1).setCell ⟨w.heap.size + 2, 0, none⟩ x2).setCell ⟨w.heap.size + 3, 0, none⟩ x3).ownsRow w.heap.size 49 2 v k xs :=
  row_far (row_far (row_far h h1 (by decide)) (h2.other (by omega) _) (by decide)) ((h3.other (by omega) _).other (by omega) _) (by decide)
theorem parse_leaves {tmps : Array Value} {w W : World} {D : Nat} {v : Value} {a0 r2 : ByteArray} {r3 : Int} {l : List (Sp.L × Sp.L)} {o : Option (List Deferred)} {F : List (Sp.L × Sp.L) × Sp.L × Int}
    (t2 : tmps[2]? = some (.pointer (some ⟨w.heap.size + 1, 0, none⟩))) (t3 : tmps[3]? = some (.pointer (some ⟨w.heap.size + 2, 0, none⟩))) (t4 : tmps[4]? = some (.pointer (some ⟨w.heap.size + 3, 0, none⟩)))
    (hK : W.heap[D]? = some (.deferred o)) (hv : Boxed W (w.heap.size + 1) 34 v) (hr : Boxed W (w.heap.size + 2) 9 (.string r2)) (he : Boxed W (w.heap.size + 3) 24 (.int .i64 r3))
    (hrow : W.ownsRow w.heap.size 49 2 v l.length (flatV l)) (hbel : Below w.heap.size w W) (hD : w.heap.size + 5 ≤ D) (hF : Sp.fields a0.data.toList = F) (hF2 : (l, r2, r3) = (F.1, Sp.mk F.2.1, F.2.2)) :
    LeavesInM Fence.wide 10 Tryz.prog Tryz.f35 tmps (fun e w' => ∃ v0_ : Value, e = .returned (.tuple #[v0_, .string (fieldsB a0).2.1, .int .i64 (fieldsB a0).2.2]) ∧ Kd.R k49 49 w' w.heap.size (fun _ => True) v0_ (fieldsB a0).1 ∧ Below w.heap.size w w') [] .returning (W.putObj D (.deferred none)) := by
  have g := grownBy_putObj' W D (.deferred none)
  have kb : ∀ {B t u}, Boxed W B t u → B < w.heap.size + 5 → Boxed (W.putObj D (.deferred none)) B t u := fun hb hlt => hb.kept g (fun e => by have := Option.some.inj e; omega)
  have c1 := (kb hv (by omega)).cell
  have c2 := (kb hr (by omega)).cell
  have c3 := (kb he (by omega)).cell
  have e : fieldsB a0 = (pairsB l, r2, r3) := by
    unfold fieldsB
    rw [hF]
    obtain ⟨rfl, h2⟩ := Prod.mk.inj hF2
    obtain ⟨rfl, rfl⟩ := Prod.mk.inj h2
    rfl
  rw [e]
  refine ⟨.tuple #[v, .string r2, .int .i64 r3], ?_, v, rfl, flat_row ?_, ?_⟩
  · simp [results, Tryz.f35, go_sem, t2, t3, t4, c1, c2, c3]
  · refine own_move hrow (fun k hk => g.block k (own_lt hrow k hk) (fun e2 => ?_))
    obtain ⟨cells, hcell⟩ := own_typed hrow k hk
    obtain rfl := Option.some.inj e2
    rw [hK] at hcell
    cases hcell
  · exact hbel.grown g hbel.size (fun k ek => by have := Option.some.inj ek; omega)
set_option maxRecDepth 100000 in
set_option maxHeartbeats 4000000 in
theorem parse_in (a0 : ByteArray) (w : World) (hG : Glob w) (hs : a0.size < 4294967281) :
    Calls Tryz.prog 35 #[.string a0] w fun e w' => ∃ v0_ : Value, e = .returned (.tuple #[v0_, .string (fieldsB a0).2.1, .int .i64 (fieldsB a0).2.2]) ∧ Kd.R k49 49 w' w.heap.size (fun _ => True) v0_ (fieldsB a0).1 ∧ Below w.heap.size w w' := by
  obtain ⟨i0, hi, hz0, hz1', hz2⟩ := info_parts info49
  refine (callsIn_wide (n := 10)).1 ?_
  have hfl : Fence.wide.fn 61 := trivial
  have hn10 : 1 ≤ 10 := by omega
  refine callsIn_of_wp_marks Tryz.func35 rfl trivial ?_ rfl
  simp only [Tryz.ntmps35, List.size_toArray, List.length_cons, List.length_nil, Nat.reduceAdd, Nat.reduceSub, Array.replicate_succ, Array.replicate_zero, List.push_toArray, List.append_toArray, List.nil_append, List.cons_append]
  gi_wp2_with (gi_at_call 61; refine (lines_in _ _ _).mono ?_; rintro e w' ⟨rfl, rfl⟩)
  simp only [Nat.add_assoc, Nat.reduceAdd]
  obtain ⟨R, hR⟩ : ∃ R, R = Sp.fields a0.data.toList := ⟨_, rfl⟩
  have hbox0 : Boxed ((((((w.alloc (Obj.cells #[Value.string a0] 9)).alloc (Obj.cells #[Value.slice none 0 0] 34)).alloc (Obj.cells #[Value.string ⟨#[]⟩] 9)).alloc (Obj.cells #[Value.int IntKind.i64 0] 24)).alloc (Obj.cells #[Value.string a0] 9))) (w.heap.size + 4) 9 (.string a0) := by
    have := Boxed.new ((((w.alloc (Obj.cells #[Value.string a0] 9)).alloc (Obj.cells #[Value.slice none 0 0] 34)).alloc (Obj.cells #[Value.string ⟨#[]⟩] 9)).alloc (Obj.cells #[Value.int IntKind.i64 0] 24)) 9 (.string a0)
    simpa only [World.size_alloc, Nat.add_assoc, Nat.reduceAdd] using this
  have hbt : Between w a0 R a0 ((((((w.alloc (Obj.cells #[Value.string a0] 9)).alloc (Obj.cells #[Value.slice none 0 0] 34)).alloc (Obj.cells #[Value.string ⟨#[]⟩] 9)).alloc (Obj.cells #[Value.int IntKind.i64 0] 24)).alloc (Obj.cells #[Value.string a0] 9))) := by
    have p0 := Boxed.new w 9 (.string a0)
    have p1 := Boxed.new (w.alloc (Obj.cells #[Value.string a0] 9)) 34 (.slice none 0 0)
    have p2 := Boxed.new ((w.alloc (Obj.cells #[Value.string a0] 9)).alloc (Obj.cells #[Value.slice none 0 0] 34)) 9 (.string ⟨#[]⟩)
    have p3 := Boxed.new (((w.alloc (Obj.cells #[Value.string a0] 9)).alloc (Obj.cells #[Value.slice none 0 0] 34)).alloc (Obj.cells #[Value.string ⟨#[]⟩] 9)) 24 (.int .i64 0)
    simp only [World.size_alloc, Nat.add_assoc, Nat.reduceAdd] at p1 p2 p3
    refine ⟨⟨a0.data.toList.length + 1, [], _, ?_, ?_, ?_, ((p1.alloc _).alloc _).alloc _, World.ownsRow_nil _ _ _ _⟩, (((p0.alloc _).alloc _).alloc _).alloc _, (p2.alloc _).alloc _, p3.alloc _, ⟨_, hbox0⟩, ?_⟩
    · rw [hR, Lib.size_eq]; rfl
    · rw [Lib.size_eq]; omega
    · simp
    · exact ((((((Below.refl _ w).alloc (Nat.le_refl _) _).alloc (by simp) _).alloc (by simp; omega) _).alloc (by simp; omega) _).alloc (by simp; omega) _)
  have hsz5 : ((((((w.alloc (Obj.cells #[Value.string a0] 9)).alloc (Obj.cells #[Value.slice none 0 0] 34)).alloc (Obj.cells #[Value.string ⟨#[]⟩] 9)).alloc (Obj.cells #[Value.int IntKind.i64 0] 24)).alloc (Obj.cells #[Value.string a0] 9))).heap.size = w.heap.size + 5 := by simp only [World.size_alloc]
  generalize ((((((w.alloc (Obj.cells #[Value.string a0] 9)).alloc (Obj.cells #[Value.slice none 0 0] 34)).alloc (Obj.cells #[Value.string ⟨#[]⟩] 9)).alloc (Obj.cells #[Value.int IntKind.i64 0] 24)).alloc (Obj.cells #[Value.string a0] 9))) = W0 at *
  have hbt' := Lib.hid hbt
  have hbox' := Lib.hid hbox0
  have hsz' := Lib.hid hsz5
  have hR' := Lib.hid hR
  clear hbt hbox0 hR hsz5
  refine range_lines (F := Fence.wide) (n := 10) rfl (by omega) (gf := 97) (lb := #[.pointer (some ⟨w.heap.size + 4, 0, none⟩)]) rfl trivial (enters_of Tryz.func97 (by kernel_rfl) rfl)
    (lines_stops 9 (by omega) (w.heap.size + 4) a0 W0 hs (by rw [hsz'.out]; omega) hbox'.out) (by rw [hsz'.out]; omega) rfl
    (Between w a0 R) (Left w a0 R) (by rw [hsz'.out]; exact Between.own w a0 R) (by rw [hsz'.out]; exact Left.own w a0 R) (Between.stays w a0 R) (fun c W h => hG.below h.bel) hbt'.out
    (fun x y => { tmps := #[Value.string a0, Value.pointer (some { block := w.heap.size, off := 0 }), Value.pointer (some { block := w.heap.size + 1, off := 0 }), Value.pointer (some { block := w.heap.size + 2, off := 0 }), Value.pointer (some { block := w.heap.size + 3, off := 0 }), .string x, .string y, undef, undef, Value.string a0, Value.func (Fn.func 97) #[] #[Value.pointer (some { block := w.heap.size + 4, off := 0 })], .string x, .string y, undef, undef, undef, undef, undef, undef, undef, undef, undef, undef, undef, undef, undef, undef, undef, undef, undef, undef, undef, undef, undef, undef, undef, undef], defers := [] }) ?assign ?body ?done ?stop
  case assign =>
    intro l x y W K hK
    gi_wp2
    exact hK
  case body =>
    intro l cur x y W hb hline
    obtain ⟨⟨f, acc, v, hf, hcf, hlen, hv, hrow⟩, hsb, hrb, heb, hib, hbel⟩ := hb
    have hsz := lineB_size cur x y hline
    obtain ⟨f, rfl⟩ : ∃ f', f = f' + 1 := ⟨f - 1, by omega⟩
    obtain ⟨A, c, rfl⟩ := own_slice hrow
    have hstep := fparse_step a0.size f cur x y acc hline
    rw [hf] at hstep
    have hya : y.size ≤ a0.size := by omega
    have hya2 : (y.size : Int) ≤ (a0.size : Int) := by omega
    have hc0 := hsb.cell
    have hcl := hv.cell
    have hcr := hrb.cell
    have hce := heb.cell
    have hfl := hv.frozen
    have hfr := hrb.frozen
    have hfe := heb.frozen
    have hWk := Lib.hid (⟨hsb, hrb, heb, hib, hbel, hv, hrow⟩ : Boxed W w.heap.size 9 (.string a0) ∧ Boxed W (w.heap.size + 2) 9 (.string ⟨#[]⟩) ∧ Boxed W (w.heap.size + 3) 24 (.int .i64 0) ∧ (∃ u, Boxed W (w.heap.size + 4) 9 u) ∧ Below w.heap.size w W ∧ Boxed W (w.heap.size + 1) 34 (.slice A acc.length c) ∧ W.ownsRow w.heap.size 49 2 (.slice A acc.length c) acc.length (flatV acc))
    clear hsb hrb heb hib hbel hv hrow hf hbt' hbox'
    have hszH := Lib.hid (⟨hsz, hcf, hlen, hya⟩ : cur.size = x.size + y.size + 2 ∧ cur.size < f + 1 ∧ acc.length + cur.size ≤ a0.size ∧ y.size ≤ a0.size)
    clear hsz hcf hlen hline
    by_cases hhead : 8000 < (a0.size : Int) - (y.size : Int)
    · rw [if_pos (by omega)] at hstep
      have hst := Lib.hid hstep
      have hd := decide_eq_true hhead
      clear hstep hhead hya
      gi_wp2
      obtain ⟨hsb, hrb, heb, hib, hbel, hv, hrow⟩ := hWk.out
      exact ⟨KeepsFrom.refl _ _, ⟨.inl ⟨rfl, hst.out, ⟨_, hv⟩, hrb, heb⟩, hsb, hbel⟩⟩
    · rw [if_neg (by omega)] at hstep
      have hd := decide_eq_false hhead
      clear hhead hya
      by_cases hx0 : x.data.toList = []
      · rw [if_pos hx0] at hstep
        have hst := Lib.hid hstep
        obtain rfl : x = ⟨#[]⟩ := Sp.ba_ext hx0
        clear hstep hx0
        obtain ⟨hsb, hrb, heb, hib, hbel, hv, hrow⟩ := hWk.out
        gi_wp2
        have hv2 := (((hv.set (.slice A acc.length c)).other (B' := w.heap.size + 2) (by omega) (.string y)).other (B' := w.heap.size + 3) (by omega) (.int .i64 0))
        have hr2 := (((hrb.other (B' := w.heap.size + 1) (by omega) (.slice A acc.length c)).set (.string y)).other (B' := w.heap.size + 3) (by omega) (.int .i64 0))
        have he2 := (((heb.other (B' := w.heap.size + 1) (by omega) (.slice A acc.length c)).other (B' := w.heap.size + 2) (by omega) (.string y)).set (.int .i64 0))
        have hs2 := (((hsb.other (B' := w.heap.size + 1) (by omega) (.slice A acc.length c)).other (B' := w.heap.size + 2) (by omega) (.string y)).other (B' := w.heap.size + 3) (by omega) (.int .i64 0))
        refine ⟨((((KeepsOthers.setCell _ _ _).trans (KeepsOthers.setCell _ _ _)).trans (KeepsOthers.setCell _ _ _)).from _), ⟨.inr ⟨rfl, ⟨_, hv2, ?_⟩, ?_, ?_⟩, hs2, ?_⟩⟩
        · rw [hst.out]
          exact row_set3 hrow hv hrb heb
        · rw [hst.out]
          show Boxed _ _ _ (.string (Sp.mk y.data.toList))
          rw [Sp.mk_self]
          exact hr2
        · rw [hst.out]
          exact he2
        · exact ((hbel.setCell (p := ⟨w.heap.size + 1, 0, none⟩) (Nat.le_add_right _ _) _).setCell (p := ⟨w.heap.size + 2, 0, none⟩) (Nat.le_add_right _ _) _).setCell (p := ⟨w.heap.size + 3, 0, none⟩) (Nat.le_add_right _ _) _
      · rw [if_neg hx0] at hstep
        have hne1 : ¬ x.toList = [] := by rw [Sp.tl]; exact hx0
        have hne2 : (x.toList == []) = false := by simpa using hne1
        have hxl : x.data.toList.length < 4294967281 := by rw [← Lib.size_eq]; have := hszH.out; omega
        have HF := Sp.pairF x.data.toList (x.data.toList.length + 1) hxl (by omega)
        rw [Sp.mk_self] at HF
        have HP0 := field_pair.calls _ x _ _ _ W (hG.below hWk.out.2.2.2.2.1) HF
        clear HF hxl hx0
        have hf31 : Fence.wide.fn 62 := trivial
        obtain ⟨pp, hpp⟩ : ∃ pp, pp = Sp.pairP x.data.toList := ⟨_, rfl⟩
        rw [← hpp] at hstep HP0
        clear hpp
        obtain ⟨q1, q2, q3⟩ := pp
        simp only at hstep HP0
        have HP := Lib.hid (CallsIn.inRound l (callsIn_wide.2 HP0) (n := 7))
        have hst := Lib.hid hstep
        clear hstep HP0
        obtain ⟨hsb, hrb, heb, hib, hbel, hv, hrow⟩ := hWk.out
        have hvH := Lib.hid hv
        have hrH := Lib.hid hrb
        have heH := Lib.hid heb
        clear hv hrb heb hcl hcr hce hfl hfr hfe
        cases q3 with
        | false =>
          gi_wp2_with (gi_at_call 62; refine HP.out.mono ?_; rintro e W1 ⟨rfl, hb1⟩; have hv1 := Lib.hid (bx_below hvH.out hb1); have hr1 := Lib.hid (bx_below hrH.out hb1); have he1 := Lib.hid (bx_below heH.out hb1); have hl1 := hv1.out.cell; have hl2 := hv1.out.frozen; have hl3 := hr1.out.cell; have hl4 := hr1.out.frozen; have hl5 := he1.out.cell; have hl6 := he1.out.frozen; have hz1 := hv1.out.lt; have hz2 := hr1.out.lt; have hz3 := he1.out.lt)
          have hR2 : R = ([], [], 180) := by simpa using hst.out
          have hlt := hbel.size
          have hrr := hrH.out
          have hee := heH.out
          have hvv := hvH.out
          have hss := bx_below hsb hb1
          have e1 := (((hv1.out.set (.slice none 0 0)).other (B' := w.heap.size + 2) (by omega) (.string ⟨#[]⟩)).other (B' := w.heap.size + 3) (by omega) (.int .i64 180)).alloc (Obj.cells #[Value.string (Sp.mk q1), Value.string (Sp.mk q2)] 49)
          have e2 := (((hr1.out.other (B' := w.heap.size + 1) (by omega) (.slice none 0 0)).set (.string ⟨#[]⟩)).other (B' := w.heap.size + 3) (by omega) (.int .i64 180)).alloc (Obj.cells #[Value.string (Sp.mk q1), Value.string (Sp.mk q2)] 49)
          have e3 := (((he1.out.other (B' := w.heap.size + 1) (by omega) (.slice none 0 0)).other (B' := w.heap.size + 2) (by omega) (.string ⟨#[]⟩)).set (.int .i64 180)).alloc (Obj.cells #[Value.string (Sp.mk q1), Value.string (Sp.mk q2)] 49)
          have e0 := (((hss.other (B' := w.heap.size + 1) (by omega) (.slice none 0 0)).other (B' := w.heap.size + 2) (by omega) (.string ⟨#[]⟩)).other (B' := w.heap.size + 3) (by omega) (.int .i64 180)).alloc (Obj.cells #[Value.string (Sp.mk q1), Value.string (Sp.mk q2)] 49)
          refine ⟨((((keeps_below hb1 _).trans ((KeepsOthers.setCell _ _ _).from _)).trans ((KeepsOthers.setCell _ _ _).from _)).trans ((KeepsOthers.setCell _ _ _).from _)).trans ((KeepsOthers.alloc _ _).from _), ⟨.inr ⟨rfl, ⟨_, e1, ?_⟩, ?_, ?_⟩, e0, ?_⟩⟩
          · rw [hR2]
            exact World.ownsRow_nil _ _ _ _
          · rw [hR2]
            exact e2
          · rw [hR2]
            exact e3
          · refine ((((hbel.trans (hb1.mono hbel.size)).setCell (p := ⟨w.heap.size + 1, 0, none⟩) (Nat.le_add_right _ _) _).setCell (p := ⟨w.heap.size + 2, 0, none⟩) (Nat.le_add_right _ _) _).setCell (p := ⟨w.heap.size + 3, 0, none⟩) (Nat.le_add_right _ _) _).alloc ?_ _
            have := hb1.size
            simp only [World.setCell, Array.size_modify]
            omega
        | true =>
          have hlH := Lib.hid (show acc.length + 1 ≤ 4294967281 by have := hszH.out; omega)
          gi_wp2_with (first | (gi_at_call 62; refine HP.out.mono ?_; rintro e W1 ⟨rfl, hb1⟩; have hv1 := Lib.hid (bx_below hvH.out hb1); have hl1 := hv1.out.cell; have hl2 := hv1.out.frozen; have hz1 := hv1.out.lt; have hb1 := Lib.hid hb1) | (gi_at_builtin; refine wpListIn_append_own _ rfl _ _ 34 rfl w.heap.size 49 i0 _ 2 32 Tryz.underlying34 hi hz0 hz1' hz2 rfl (by decide) _ _ _ rfl (((row_below hrow hb1.out).alloc _).alloc _) ⟨W1.heap.size + 1, 0, none⟩ 1 1 [.string (Sp.mk q1), .string (Sp.mk q2)] rfl rfl (cells_two _ _ _ _) (by simp [Value.oneCell']) (by have := hlH.out; unfold maxLen; omega) (by have := hlH.out; omega) (by have := hbel.size; have := hb1.out.size; simp; omega) ?_; intro v' w1 hown' hgrow _; obtain ⟨A', c', rfl⟩ := own_slice hown'; have hown' := Lib.hid hown'; have hv2 := Lib.hid (((hv1.out.alloc _).alloc _).kept hgrow (hvH.out.not_row (by decide) hrow)); have hgrow := Lib.hid hgrow; have hl3 := hv2.out.cell; have hl4 := hv2.out.frozen))
          have hR2 : Sp.fparse a0.size f y.data.toList (acc ++ [(q1, q2)]) = R := by simpa using hst.out.symm
          have hszz := hszH.out
          have hrowW1 := row_below hrow hb1.out
          have nr : ∀ {B t u}, Boxed W B t u → t ≠ 49 → Boxed w1 B t u := fun hb ht => (((bx_below hb hb1.out).alloc _).alloc _).kept hgrow.out (hb.not_row ht hrow)
          obtain ⟨u4, hu4⟩ := hib
          have g4 := nr hu4 (by decide)
          refine ⟨?_, ?_, ⟨⟨f, acc ++ [(q1, q2)], _, hR2, by omega, by simp only [List.length_append, List.length_singleton]; omega, hv2.out.set _, ?_⟩, bx_set (nr hsb (by decide)) _ (by show w.heap.size ≠ w.heap.size + 1; omega) _, bx_set (nr hrH.out (by decide)) _ (by show w.heap.size + 2 ≠ w.heap.size + 1; omega) _, bx_set (nr heH.out (by decide)) _ (by show w.heap.size + 3 ≠ w.heap.size + 1; omega) _, ⟨u4, bx_set g4 _ (by show w.heap.size + 4 ≠ w.heap.size + 1; omega) _⟩, ?_⟩⟩
          · refine ((((keeps_below hb1.out _).trans ((KeepsOthers.alloc _ _).from _)).trans ((KeepsOthers.alloc _ _).from _)).trans ((KeepsOthers.of_grownBy hgrow.out fun j o ej hj => ?_).from _)).trans ((KeepsOthers.setCell _ _ _).from _)
            obtain ⟨cells, hcell⟩ := own_typed ((hrowW1.alloc (Obj.cells #[Value.string (Sp.mk q1), Value.string (Sp.mk q2)] 49)).alloc (Obj.cells #[Value.string (Sp.mk q1), Value.string (Sp.mk q2)] 49)) j ej
            rw [hcell] at hj
            cases hj
            rfl
          · exact (Below.heap_setCell _ _ _ _ (by show w.heap.size + 4 ≠ w.heap.size + 1; omega)).trans ((show w1.heap[w.heap.size + 4]? = _ from g4).trans (show W.heap[w.heap.size + 4]? = _ from hu4).symm)
          · have h9 := row_far (x := .slice A' (acc.length + 1) c') hown'.out hv2.out (by decide)
            rw [show (acc ++ [(q1, q2)]).length = acc.length + 1 from by simp, show flatV (acc ++ [(q1, q2)]) = flatV acc ++ [.string (Sp.mk q1), .string (Sp.mk q2)] from by simp [flatV]]
            exact h9
          · refine ((((hbel.trans (hb1.out.mono hbel.size)).alloc (Nat.le_trans hbel.size hb1.out.size) _).alloc ?_ _).grown hgrow.out ?_ (fun k ek => own_base hrow k ek)).setCell (p := ⟨w.heap.size + 1, 0, none⟩) (Nat.le_add_right _ _) _
            · have := hbel.size; have := hb1.out.size; simp; omega
            · have := hbel.size; have := hb1.out.size; simp; omega
  case done =>
    intro D cur W hD hcur hb hK
    obtain ⟨⟨f, acc, v, hf, hcf, hlen, hv, hrow⟩, hsb, hrb, heb, hib, hbel⟩ := hb
    obtain ⟨f, rfl⟩ : ∃ f', f = f' + 1 := ⟨f - 1, by omega⟩
    have hend := (fparse_stop a0.size f cur acc hcur).symm.trans hf
    obtain ⟨A, c, rfl⟩ := own_slice hrow
    have hc0 := hsb.cell
    have hcl := hv.cell
    have hcr := hrb.cell
    have hce := heb.cell
    have hflz := hv.frozen
    have hfr := hrb.frozen
    have hfe := heb.frozen
    have hd5 : w.heap.size + 5 ≤ D := by rw [← hsz'.out]; exact hD
    have hWk := Lib.hid (⟨hsb, hrb, heb, hbel, hv⟩ : Boxed W w.heap.size 9 (.string a0) ∧ Boxed W (w.heap.size + 2) 9 (.string ⟨#[]⟩) ∧ Boxed W (w.heap.size + 3) 24 (.int .i64 0) ∧ Below w.heap.size w W ∧ Boxed W (w.heap.size + 1) 34 (.slice A acc.length c))
    have hfB := Lib.hid (hR'.out.symm.trans hend.symm)
    have hKH := Lib.hid hK
    clear hf hlen hcur hbt' hbox' hsb hrb heb hib hbel hv hrow hend hK hR' hcf
    by_cases h8 : 8000 < (a0.size : Int)
    · have hdd := decide_eq_true h8
      gi_wp2
      obtain ⟨hsb, hrb, heb, hbel, hv⟩ := hWk.out
      have hK3 := (((KeepsOthers.setCell W ⟨w.heap.size + 1, 0, none⟩ (.slice none 0 0)).trans (KeepsOthers.setCell _ ⟨w.heap.size + 2, 0, none⟩ (.string ⟨#[]⟩))).trans (KeepsOthers.setCell _ ⟨w.heap.size + 3, 0, none⟩ (.int .i64 2))).same D _ hKH.out rfl
      refine ⟨by simp, .inl ⟨_, _, rfl, run_takeDeferred hK3, ?_⟩⟩
      exact parse_leaves rfl rfl rfl hK3 (((hv.set _).other (by omega) _).other (by omega) _) (((hrb.other (by omega) _).set _).other (by omega) _) (((heb.other (by omega) _).other (by omega) _).set _) (World.ownsRow_nil _ _ _ _) (((hbel.setCell (p := ⟨w.heap.size + 1, 0, none⟩) (Nat.le_add_right _ _) _).setCell (p := ⟨w.heap.size + 2, 0, none⟩) (Nat.le_add_right _ _) _).setCell (p := ⟨w.heap.size + 3, 0, none⟩) (Nat.le_add_right _ _) _) hd5 (hfB.out.trans (by rw [if_pos (by omega)])) rfl
    · have hdd := decide_eq_false h8
      gi_wp2
      obtain ⟨hsb, hrb, heb, hbel, hv⟩ := hWk.out
      have hK3 := (((KeepsOthers.setCell W ⟨w.heap.size + 1, 0, none⟩ (.slice none 0 0)).trans (KeepsOthers.setCell _ ⟨w.heap.size + 2, 0, none⟩ (.string ⟨#[]⟩))).trans (KeepsOthers.setCell _ ⟨w.heap.size + 3, 0, none⟩ (.int .i64 180))).same D _ hKH.out rfl
      refine ⟨by simp, .inl ⟨_, _, rfl, run_takeDeferred hK3, ?_⟩⟩
      exact parse_leaves rfl rfl rfl hK3 (((hv.set _).other (by omega) _).other (by omega) _) (((hrb.other (by omega) _).set _).other (by omega) _) (((heb.other (by omega) _).other (by omega) _).set _) (World.ownsRow_nil _ _ _ _) (((hbel.setCell (p := ⟨w.heap.size + 1, 0, none⟩) (Nat.le_add_right _ _) _).setCell (p := ⟨w.heap.size + 2, 0, none⟩) (Nat.le_add_right _ _) _).setCell (p := ⟨w.heap.size + 3, 0, none⟩) (Nat.le_add_right _ _) _) hd5 (hfB.out.trans (by rw [if_neg (by omega)])) rfl
  case stop =>
    intro D c W hD hl hK
    obtain ⟨hhow, hsb, hbel⟩ := hl
    have hd5 : w.heap.size + 5 ≤ D := by rw [← hsz'.out]; exact hD
    have hKH := Lib.hid hK
    clear hK hbt' hbox'
    rcases hhow with ⟨rfl, hfin, ⟨v, hv⟩, hrb, heb⟩ | ⟨rfl, ⟨v, hv, hrow⟩, hrb, heb⟩
    · have hc0 := hsb.cell
      have hcl := hv.cell
      have hcr := hrb.cell
      have hce := heb.cell
      have hflz := hv.frozen
      have hfr := hrb.frozen
      have hfe := heb.frozen
      have hWk := Lib.hid (⟨hsb, hrb, heb, hbel, hv⟩ : Boxed W w.heap.size 9 (.string a0) ∧ Boxed W (w.heap.size + 2) 9 (.string ⟨#[]⟩) ∧ Boxed W (w.heap.size + 3) 24 (.int .i64 0) ∧ Below w.heap.size w W ∧ Boxed W (w.heap.size + 1) 34 v)
      have hfB := Lib.hid (hR'.out.symm.trans hfin)
      clear hfin hsb hrb heb hbel hv hR'
      by_cases h8 : 8000 < (a0.size : Int)
      · have hdd := decide_eq_true h8
        gi_wp2
        obtain ⟨hsb, hrb, heb, hbel, hv⟩ := hWk.out
        have hK3 := (((KeepsOthers.setCell W ⟨w.heap.size + 1, 0, none⟩ (.slice none 0 0)).trans (KeepsOthers.setCell _ ⟨w.heap.size + 2, 0, none⟩ (.string ⟨#[]⟩))).trans (KeepsOthers.setCell _ ⟨w.heap.size + 3, 0, none⟩ (.int .i64 2))).same D _ hKH.out rfl
        refine ⟨by simp, .inl ⟨_, _, rfl, run_takeDeferred hK3, ?_⟩⟩
        exact parse_leaves rfl rfl rfl hK3 (((hv.set _).other (by omega) _).other (by omega) _) (((hrb.other (by omega) _).set _).other (by omega) _) (((heb.other (by omega) _).other (by omega) _).set _) (World.ownsRow_nil _ _ _ _) (((hbel.setCell (p := ⟨w.heap.size + 1, 0, none⟩) (Nat.le_add_right _ _) _).setCell (p := ⟨w.heap.size + 2, 0, none⟩) (Nat.le_add_right _ _) _).setCell (p := ⟨w.heap.size + 3, 0, none⟩) (Nat.le_add_right _ _) _) hd5 (hfB.out.trans (by rw [if_pos (by omega)])) rfl
      · have hdd := decide_eq_false h8
        gi_wp2
        obtain ⟨hsb, hrb, heb, hbel, hv⟩ := hWk.out
        have hK3 := (((KeepsOthers.setCell W ⟨w.heap.size + 1, 0, none⟩ (.slice none 0 0)).trans (KeepsOthers.setCell _ ⟨w.heap.size + 2, 0, none⟩ (.string ⟨#[]⟩))).trans (KeepsOthers.setCell _ ⟨w.heap.size + 3, 0, none⟩ (.int .i64 180))).same D _ hKH.out rfl
        refine ⟨by simp, .inl ⟨_, _, rfl, run_takeDeferred hK3, ?_⟩⟩
        exact parse_leaves rfl rfl rfl hK3 (((hv.set _).other (by omega) _).other (by omega) _) (((hrb.other (by omega) _).set _).other (by omega) _) (((heb.other (by omega) _).other (by omega) _).set _) (World.ownsRow_nil _ _ _ _) (((hbel.setCell (p := ⟨w.heap.size + 1, 0, none⟩) (Nat.le_add_right _ _) _).setCell (p := ⟨w.heap.size + 2, 0, none⟩) (Nat.le_add_right _ _) _).setCell (p := ⟨w.heap.size + 3, 0, none⟩) (Nat.le_add_right _ _) _) hd5 (hfB.out.trans (by rw [if_neg (by omega)])) rfl
    · have hvH := Lib.hid hv
      have hrH := Lib.hid hrb
      have heH := Lib.hid heb
      clear hv hrb heb
      gi_wp2
      refine ⟨by simp, .inl ⟨_, _, rfl, run_takeDeferred hKH.out, ?_⟩⟩
      exact parse_leaves rfl rfl rfl hKH.out hvH.out hrH.out heH.out hrow hbel hd5 hR'.out.symm rfl
theorem field_Parse.calls (a0 : ByteArray) (r1 : List S49) (r2 : ByteArray) (r3 : Int) (w : World) (hG : Glob w) (h : field_Parse.f a0 = some (r1, r2, r3)) :
    Calls Tryz.prog 35 #[.string a0] w fun e w' => ∃ v0_ : Value, e = .returned (.tuple #[v0_, .string r2, .int .i64 r3]) ∧ Kd.R k49 49 w' w.heap.size (fun _ => True) v0_ r1 ∧ Below w.heap.size w w' := by
  unfold field_Parse.f at h
  split at h
  case isFalse => exact absurd h (by simp)
  rename_i hs
  have h2 := Option.some.inj h
  have := parse_in a0 w hG hs
  rw [h2] at this
  exact this
end Go.Proofs.YteonhdfjfjpbjaaGreatDoor.O

/- Olen -/
namespace Go.Proofs.YteonhdfjfjpbjaaGreatDoor.O
open Go.RowKit Go.Proofs.YteonhdfjfjpbjaaGreatDoorW.PrintWords Go.Proofs.YteonhdfjfjpbjaaGreatDoorW.PrintLast Go.Proofs.YteonhdfjfjpbjaaGreatDoorW.PrintMore Go.Proofs.YteonhdfjfjpbjaaGreatDoor.P Go.Proofs.YteonhdfjfjpbjaaGreatDoor.B
set_option linter.unusedVariables false
set_option linter.unusedSimpArgs false

def Builder_Len.f (s0 : ByteArray) : Option (Int × ByteArray) := some ((s0.size : Int), s0)
theorem Builder_Len.calls (g : Nat) (s0_0 : ByteArray) (r1 : Int) (r2 : ByteArray) (w0 w : World) (hI : IsS54 w0 w g s0_0) (hB : Below w0.heap.size w0 w) (h : Builder_Len.f s0_0 = some (r1, r2)) :
    Calls Tryz.prog 34 #[.pointer (some ⟨g, 0, none⟩)] w fun e w' => e = .returned (.int .i64 r1) ∧ IsS54 w0 w' g r2 ∧ Below w0.heap.size w0 w' ∧ KeepB 5 w w' g := by
  obtain ⟨rfl, rfl⟩ : (s0_0.size : Int) = r1 ∧ s0_0 = r2 := by simpa [Builder_Len.f] using h
  refine (Tryz.Builder_Len_f w0.heap.size g _ w hI).mono ?_
  rintro e w' ⟨rfl, rfl⟩
  rw [cells_len]
  exact ⟨rfl, hI, hB, ⟨by first | exact Lib.OthersKept.refl _ _ _ | exact ⟨fun _ _ h _ _ => h⟩ | (intro k o hk _ _; exact hk)⟩⟩
end Go.Proofs.YteonhdfjfjpbjaaGreatDoor.O

/- Px16 -/
namespace Go.Proofs.YteonhdfjfjpbjaaGreatDoor.P
open Go.Proofs.YteonhdfjfjpbjaaGreatDoor.B
open Go.RowKit Go.Proofs.YteonhdfjfjpbjaaGreatDoorW.PrintWords Go.Proofs.YteonhdfjfjpbjaaGreatDoorW.PrintLast Go.Proofs.YteonhdfjfjpbjaaGreatDoorW.PrintMore
attribute [local go_sem] str_leq str_gtr str_geq max2_int min2_int max_two min_two max_three min_three max_four min_four   -- for this text's walks alone
set_option linter.unusedVariables false
set_option linter.unusedSimpArgs false

open Go.Proofs.YteonhdfjfjpbjaaGreatDoor.O
/-! ### chunk_Decode: function 12 -/
mutual
def chunk_Decode.l0 : Nat → ByteArray → ByteArray → Option (ByteArray × ByteArray × Int)
  | 0, _, _ => none
  | k + 1, x0, x164000 => (strings_Cut.f x0 (⟨#[13, 10]⟩ : ByteArray)).bind fun bt164 => ((chunk_size.f k bt164.1).bind fun bt167 => (if bt164.2.2 = true then (chunk_Decode.j1 k bt164.2.1 bt167.1 (!bt167.2) x164000) else (chunk_Decode.j1 k bt164.2.1 bt167.1 true x164000)))
def chunk_Decode.j1 : Nat → ByteArray → Int → Bool → ByteArray → Option (ByteArray × ByteArray × Int)
  | 0, _, _, _, _ => none
  | k + 1, x7, x9, x25, x164000 => if x25 = true then (some ((⟨#[]⟩ : ByteArray), (⟨#[]⟩ : ByteArray), 190)) else (if x9 = 0 then ((field_Parse.f x7).bind fun bt177 => (if bt177.2.2 = 0 then ((Builder_String.f x164000).bind fun bt182 => (some (bt182.1, bt177.2.1, 0))) else (some ((⟨#[]⟩ : ByteArray), (⟨#[]⟩ : ByteArray), 190)))) else ((Builder_Len.f x164000).bind fun bt169 => ((chunk_part.f x7 x9 bt169.1).bind fun bt171 => (if bt171.2.2 = 0 then ((Builder_WriteString.f bt169.2 bt171.1).bind fun bt174 => (chunk_Decode.l0 k bt171.2.1 bt174.2.2)) else (some ((⟨#[]⟩ : ByteArray), (⟨#[]⟩ : ByteArray), bt171.2.2))))))
end
def chunk_Decode.f (k : Nat) (a0 : ByteArray) : Option (ByteArray × ByteArray × Int) := chunk_Decode.l0 k a0 (⟨#[]⟩ : ByteArray)
theorem chunk_Decode.mono_l : ∀ k, (∀ y0 y1, LeO (chunk_Decode.l0 k y0 y1) (chunk_Decode.l0 (k + 1) y0 y1)) ∧ (∀ y0 y1 y2 y3, LeO (chunk_Decode.j1 k y0 y1 y2 y3) (chunk_Decode.j1 (k + 1) y0 y1 y2 y3))
  | 0 => ⟨fun _ _ r h => by simp [chunk_Decode.l0] at h, fun _ _ _ _ r h => by simp [chunk_Decode.j1] at h⟩
  | k + 1 => by
    obtain ⟨ih0, ih1⟩ := chunk_Decode.mono_l k
    refine ⟨?_, ?_⟩
    · intro y0 y1
      unfold chunk_Decode.l0
      repeat' first
      | (with_reducible exact ih0 _ _)
      | (with_reducible exact ih1 _ _ _ _)
      | (with_reducible exact chunk_size.mono _ _)
      | (with_reducible exact LeO.refl _)
      | (with_reducible exact LeO.none _)
      | (with_reducible refine LeO.ite ?_ ?_)
      | (with_reducible refine LeO.bind ?_ (fun _ => ?_))
      | exact ih0 _ _
      | exact ih1 _ _ _ _
      | exact chunk_size.mono _ _
      | exact LeO.none _
      | refine LeO.ite ?_ ?_
      | refine LeO.bind ?_ (fun _ => ?_)
    · intro y0 y1 y2 y3
      unfold chunk_Decode.j1
      repeat' first
      | (with_reducible exact ih0 _ _)
      | (with_reducible exact ih1 _ _ _ _)
      | (with_reducible exact chunk_size.mono _ _)
      | (with_reducible exact LeO.refl _)
      | (with_reducible exact LeO.none _)
      | (with_reducible refine LeO.ite ?_ ?_)
      | (with_reducible refine LeO.bind ?_ (fun _ => ?_))
      | exact ih0 _ _
      | exact ih1 _ _ _ _
      | exact chunk_size.mono _ _
      | exact LeO.none _
      | refine LeO.ite ?_ ?_
      | refine LeO.bind ?_ (fun _ => ?_)
theorem chunk_Decode.mono : ∀ a0 k, LeO (chunk_Decode.f k a0) (chunk_Decode.f (k + 1) a0) := by
  intro a0 k
  obtain ⟨ih0, ih1⟩ := chunk_Decode.mono_l k
  unfold chunk_Decode.f
  repeat' first
      | (with_reducible exact ih0 _ _)
      | (with_reducible exact ih1 _ _ _ _)
      | (with_reducible exact chunk_size.mono _ _)
      | (with_reducible exact LeO.refl _)
      | (with_reducible exact LeO.none _)
      | (with_reducible refine LeO.ite ?_ ?_)
      | (with_reducible refine LeO.bind ?_ (fun _ => ?_))
      | exact ih0 _ _
      | exact ih1 _ _ _ _
      | exact chunk_size.mono _ _
      | exact LeO.none _
      | refine LeO.ite ?_ ?_
      | refine LeO.bind ?_ (fun _ => ?_)
set_option maxHeartbeats 8000000 in
set_option maxRecDepth 100000 in
theorem chunk_Decode.calls (k : Nat) (a0 : ByteArray) (r1 : ByteArray) (r2 : ByteArray) (r3 : Int) (w : World) (hG : Glob w) (h : chunk_Decode.f k a0 = some (r1, r2, r3)) :
    Calls Tryz.prog 12 #[.string a0] w fun e w' => e = .returned (.tuple #[.string r1, .string r2, .int .i64 r3]) ∧ Below w.heap.size w w' := by
  have hu54 := Tryz.underlying54
  have HB := Aside0.mk (Below.refl w.heap.size w)
  have hGA := Aside0.mk hG
  clear hG
  have H : (chunk_Decode.l0 k a0 (⟨#[]⟩ : ByteArray)) = some (r1, r2, r3) := h
  clear h
  have H' := Aside0.mk H
  clear H
  go_enter Tryz.func12, Tryz.ntmps12
  go_wp2_with (first | ((with_reducible refine gate_dst (N := 5) rfl ?_); refine box_event ?hg (N := 5) ?hd (cs := #[.pointer none, .slice none 0 0]) (t := 54) ?hr ?_; (case hd => rfl); (case hg => rfl); (case hr => first | (go_simp; done) | (go_simp; rfl)); intro gb163 hg w2 hbox hb; have n0_ := Aside0.mk (below_step (by repeat (first | (with_reducible first | exact HB.out | apply below_alloc | apply pw_below_drewN | apply below_drew1) | exact HB.out)) hb); have n1_ := Aside0.mk ((by rw [hg]; exact (below_size (by repeat (first | (with_reducible first | exact HB.out | apply below_alloc | apply pw_below_drewN | apply below_drew1) | exact HB.out))) : w.heap.size ≤ gb163)); have n2_ := Aside0.mk ((by rw [hg]; exact (below_size (by repeat (first | (with_reducible first | exact HB.out | apply below_alloc | apply pw_below_drewN | apply below_drew1) | exact HB.out))) : w.heap.size ≤ gb163)); have n3_ := Aside0.mk ((show IsS54 w w2 gb163 (⟨#[]⟩ : ByteArray) from IsS54.new hbox (by rw [hg]; exact (below_size (by repeat (first | (with_reducible first | exact HB.out | apply below_alloc | apply pw_below_drewN | apply below_drew1) | exact HB.out)))))); clear HB; have HB := n0_; have GW163 := n1_; have GE163 := n2_; have HI163 := n3_; clear n0_ n1_ n2_ n3_; clear hb hbox hg))
  try (refine wp_scope_straight ?_; go_wp2_with (first | ((with_reducible refine gate_dst (N := 5) rfl ?_); refine box_event ?hg (N := 5) ?hd (cs := #[.pointer none, .slice none 0 0]) (t := 54) ?hr ?_; (case hd => rfl); (case hg => rfl); (case hr => first | (go_simp; done) | (go_simp; rfl)); intro gb163 hg w2 hbox hb; have n0_ := Aside0.mk (below_step (by repeat (first | (with_reducible first | exact HB.out | apply below_alloc | apply pw_below_drewN | apply below_drew1) | exact HB.out)) hb); have n1_ := Aside0.mk ((by rw [hg]; exact (below_size (by repeat (first | (with_reducible first | exact HB.out | apply below_alloc | apply pw_below_drewN | apply below_drew1) | exact HB.out))) : w.heap.size ≤ gb163)); have n2_ := Aside0.mk ((by rw [hg]; exact (below_size (by repeat (first | (with_reducible first | exact HB.out | apply below_alloc | apply pw_below_drewN | apply below_drew1) | exact HB.out))) : w.heap.size ≤ gb163)); have n3_ := Aside0.mk ((show IsS54 w w2 gb163 (⟨#[]⟩ : ByteArray) from IsS54.new hbox (by rw [hg]; exact (below_size (by repeat (first | (with_reducible first | exact HB.out | apply below_alloc | apply pw_below_drewN | apply below_drew1) | exact HB.out)))))); clear HB; have HB := n0_; have GW163 := n1_; have GE163 := n2_; have HI163 := n3_; clear n0_ n1_ n2_ n3_; clear hb hbox hg)))
  try (with_reducible apply wp_label; go_wp2_with (first | ((with_reducible refine gate_dst (N := 5) rfl ?_); refine box_event ?hg (N := 5) ?hd (cs := #[.pointer none, .slice none 0 0]) (t := 54) ?hr ?_; (case hd => rfl); (case hg => rfl); (case hr => first | (go_simp; done) | (go_simp; rfl)); intro gb163 hg w2 hbox hb; have n0_ := Aside0.mk (below_step (by repeat (first | (with_reducible first | exact HB.out | apply below_alloc | apply pw_below_drewN | apply below_drew1) | exact HB.out)) hb); have n1_ := Aside0.mk ((by rw [hg]; exact (below_size (by repeat (first | (with_reducible first | exact HB.out | apply below_alloc | apply pw_below_drewN | apply below_drew1) | exact HB.out))) : w.heap.size ≤ gb163)); have n2_ := Aside0.mk ((by rw [hg]; exact (below_size (by repeat (first | (with_reducible first | exact HB.out | apply below_alloc | apply pw_below_drewN | apply below_drew1) | exact HB.out))) : w.heap.size ≤ gb163)); have n3_ := Aside0.mk ((show IsS54 w w2 gb163 (⟨#[]⟩ : ByteArray) from IsS54.new hbox (by rw [hg]; exact (below_size (by repeat (first | (with_reducible first | exact HB.out | apply below_alloc | apply pw_below_drewN | apply below_drew1) | exact HB.out)))))); clear HB; have HB := n0_; have GW163 := n1_; have GE163 := n2_; have HI163 := n3_; clear n0_ n1_ n2_ n3_; clear hb hbox hg)))
  first | go_loopg [0] k (fun kq v0 w' => ∃ (x0_1 : ByteArray) (x164000_1 : ByteArray), v0 = .string x0_1 ∧ Aside0 (chunk_Decode.l0 kq x0_1 x164000_1 = some (r1, r2, r3)) ∧ Aside0 (kq ≤ k) ∧ Aside0 (IsS54 w w' gb163 x164000_1) ∧ Aside0 (Below w.heap.size w w')) | (go_simp; go_loopg [0] k (fun kq v0 w' => ∃ (x0_1 : ByteArray) (x164000_1 : ByteArray), v0 = .string x0_1 ∧ Aside0 (chunk_Decode.l0 kq x0_1 x164000_1 = some (r1, r2, r3)) ∧ Aside0 (kq ≤ k) ∧ Aside0 (IsS54 w w' gb163 x164000_1) ∧ Aside0 (Below w.heap.size w w')))
  case atStart => exact ⟨(a0), ((⟨#[]⟩ : ByteArray)), (by first | rfl | (simp; done) | (simp [*]; done)), H', ⟨Nat.le_refl _⟩, ⟨by repeat (first | (with_reducible first | exact HI163.out | apply IsS54.alloc | apply IsS54.drewN | apply IsS54.drew) | exact HI163.out)⟩, ⟨by repeat (first | (with_reducible first | exact HB.out | apply below_alloc | apply pw_below_drewN | apply below_drew1 | refine below_set ?_ (IsS54.ge HI163.out)) | exact HB.out)⟩⟩
  case round =>
    clear H'
    try clear c1
    try clear p2
    obtain ⟨x0_1, x164000_1, rfl, HA, HK1, HI163, HB⟩ := hrel
    cases gk with
    | zero => exact absurd HA.out (by simp [chunk_Decode.l0])
    | succ k1 =>
      have H := HA.out
      clear HA
      simp only [chunk_Decode.l0] at H
      replace H := Option.bind_eq_some_iff.mp H
      obtain ⟨⟨t164, t165, t166⟩, A30, H⟩ := H
      replace H : ((chunk_size.f k1 t164).bind fun bt167 => (if t166 = true then (chunk_Decode.j1 k1 t165 bt167.1 (!bt167.2) x164000_1) else (chunk_Decode.j1 k1 t165 bt167.1 true x164000_1))) = some (r1, r2, r3) := H
      have A3 := Aside0.mk A30
      clear A30
      replace H := Option.bind_eq_some_iff.mp H
      obtain ⟨⟨t167, t168⟩, A40, H⟩ := H
      replace H : (if t166 = true then (chunk_Decode.j1 k1 t165 t167 (!t168) x164000_1) else (chunk_Decode.j1 k1 t165 t167 true x164000_1)) = some (r1, r2, r3) := H
      have A4 := Aside0.mk A40
      clear A40
      have HC5 := Aside0.mk H
      clear H
      go_upto_region 4 with (first | ((with_reducible refine gate_callee (f := 31) rfl ?_); refine goesL_ (some 16) rfl rfl Tryz.func31 (by kernel_rfl) rfl #[.string x0_1, .string (⟨#[13, 10]⟩ : ByteArray)] rfl (by (try simp only [List.map_toArray, List.map_cons, List.map_nil]); first | done | rfl | (simp only [List.length_drop, List.length_take]; rfl)) ?_; (with_reducible refine (strings_Cut.calls x0_1 (⟨#[13, 10]⟩ : ByteArray) t164 t165 t166 _ ?side1 A3.out).mono ?_); (case side1 => exact Glob.below hGA.out (by repeat (first | (with_reducible first | exact HB.out | apply below_alloc | apply pw_below_drewN | apply below_drew1 | refine below_set ?_ (IsS54.ge HI163.out)) | exact HB.out))); rintro e w6 ⟨rfl, hb⟩; refine ⟨_, rfl, ?_⟩; have n0_ := Aside0.mk (IsS54.below (by repeat (first | (with_reducible first | exact HI163.out | apply IsS54.alloc | apply IsS54.drewN | apply IsS54.drew) | exact HI163.out)) hb); have n1_ := Aside0.mk (below_step (by repeat (first | (with_reducible first | exact HB.out | apply below_alloc | apply pw_below_drewN | apply below_drew1 | refine below_set ?_ (IsS54.ge HI163.out)) | exact HB.out)) hb); clear HI163; clear HB; have HI163 := n0_; have HB := n1_; clear n0_ n1_; (try clear hb); (try clear hb2); (try clear hk); (try clear hi)) | ((with_reducible refine gate_callee (f := 32) rfl ?_); refine goesL_ (some 22) rfl rfl Tryz.func32 (by kernel_rfl) rfl #[.string t164] rfl (by (try simp only [List.map_toArray, List.map_cons, List.map_nil]); first | done | rfl | (simp only [List.length_drop, List.length_take]; rfl)) ?_; (with_reducible refine (chunk_size.calls k1 t164 t167 t168 _ ?side1 A4.out).mono ?_); (case side1 => exact Glob.below hGA.out (by repeat (first | (with_reducible first | exact HB.out | apply below_alloc | apply pw_below_drewN | apply below_drew1 | refine below_set ?_ (IsS54.ge HI163.out)) | exact HB.out))); rintro e w7 ⟨rfl, hb⟩; refine ⟨_, rfl, ?_⟩; have n0_ := Aside0.mk (IsS54.below (by repeat (first | (with_reducible first | exact HI163.out | apply IsS54.alloc | apply IsS54.drewN | apply IsS54.drew) | exact HI163.out)) hb); have n1_ := Aside0.mk (below_step (by repeat (first | (with_reducible first | exact HB.out | apply below_alloc | apply pw_below_drewN | apply below_drew1 | refine below_set ?_ (IsS54.ge HI163.out)) | exact HB.out)) hb); clear HI163; clear HB; have HI163 := n0_; have HB := n1_; clear n0_ n1_; (try clear hb); (try clear hb2); (try clear hk); (try clear hi)))
      (try simp only [Act.put, List.setIfInBounds_toArray, List.set_cons_zero, List.set_cons_succ])
      go_cut [25] (fun v25 wc => ∃ (kq : Nat) (x25_4 : Bool), v25 = .bool x25_4 ∧ Aside0 (chunk_Decode.j1 kq t165 t167 x25_4 x164000_1 = some (r1, r2, r3)) ∧ Aside0 (kq ≤ k1) ∧ Aside0 (IsS54 w wc gb163 x164000_1) ∧ Aside0 (Below w.heap.size w wc))
      case first =>
        have H := HC5.out
        clear HC5
        by_cases c8 : t166 = true
        · subst c8
          have H1 : (chunk_Decode.j1 k1 t165 t167 (!t168) x164000_1) = some (r1, r2, r3) := by rw [if_pos rfl] at H; exact H
          clear H
          have H := H1
          clear H1
          have H' := Aside0.mk H
          clear H
          go_wp2
          try (refine wp_scope_straight ?_; go_wp2)
          try (with_reducible apply wp_label; go_wp2)
          go_meet
          case rel => exact ⟨_, (!t168), (by first | rfl | (simp; done) | (simp [*]; done)), H', ⟨by have := HK1.out; first | omega | exact Nat.le_refl _⟩, ⟨by repeat (first | (with_reducible first | exact HI163.out | apply IsS54.alloc | apply IsS54.drewN | apply IsS54.drew) | exact HI163.out)⟩, ⟨by repeat (first | (with_reducible first | exact HB.out | apply below_alloc | apply pw_below_drewN | apply below_drew1 | refine below_set ?_ (IsS54.ge HI163.out)) | exact HB.out)⟩⟩
        · replace c8 := Bool.eq_false_iff.mpr c8
          subst c8
          have H1 : (chunk_Decode.j1 k1 t165 t167 true x164000_1) = some (r1, r2, r3) := by rw [if_neg (show ¬ (false = true) by decide)] at H; exact H
          clear H
          have H := H1
          clear H1
          have H' := Aside0.mk H
          clear H
          go_wp2
          try (refine wp_scope_straight ?_; go_wp2)
          try (with_reducible apply wp_label; go_wp2)
          go_meet
          case rel => exact ⟨_, (true), (by first | rfl | (simp; done) | (simp [*]; done)), H', ⟨by have := HK1.out; first | omega | exact Nat.le_refl _⟩, ⟨by repeat (first | (with_reducible first | exact HI163.out | apply IsS54.alloc | apply IsS54.drewN | apply IsS54.drew) | exact HI163.out)⟩, ⟨by repeat (first | (with_reducible first | exact HB.out | apply below_alloc | apply pw_below_drewN | apply below_drew1 | refine below_set ?_ (IsS54.ge HI163.out)) | exact HB.out)⟩⟩
      case rest =>
        clear HC5
        try clear c1
        try clear p2
        try clear c3
        try clear c8
        try clear p2
        obtain ⟨kq, x25_4, rfl, HA, HJ4, HI163, HB⟩ := hcut
        cases kq with
        | zero => exact absurd HA.out (by simp [chunk_Decode.j1])
        | succ kj4 =>
          have H := HA.out
          clear HA
          simp only [chunk_Decode.j1] at H
          by_cases c9 : x25_4 = true
          · subst c9
            have H1 : (some ((⟨#[]⟩ : ByteArray), (⟨#[]⟩ : ByteArray), 190)) = some (r1, r2, r3) := by rw [if_pos rfl] at H; exact H
            clear H
            have H := H1
            clear H1
            simp only [Option.some.injEq, Prod.mk.injEq] at H
            obtain ⟨rfl, rfl, rfl⟩ := H
            go_wp2
            try (refine wp_scope_straight ?_; go_wp2)
            try (with_reducible apply wp_label; go_wp2)
            try dsimp only [Exit.noGoto]
            go_ret3
            exact ⟨by first | rfl | (simp [errW_none, errW_some, bne_nil_] <;> rfl) | (simp [*, errW_none, errW_some] <;> rfl), by repeat (first | (with_reducible first | exact HB.out | apply below_alloc | apply pw_below_drewN | apply below_drew1 | refine below_set ?_ (IsS54.ge HI163.out)) | exact HB.out)⟩
          · replace c9 := Bool.eq_false_iff.mpr c9
            subst c9
            have H1 : (if t167 = 0 then ((field_Parse.f t165).bind fun bt177 => (if bt177.2.2 = 0 then ((Builder_String.f x164000_1).bind fun bt182 => (some (bt182.1, bt177.2.1, 0))) else (some ((⟨#[]⟩ : ByteArray), (⟨#[]⟩ : ByteArray), 190)))) else ((Builder_Len.f x164000_1).bind fun bt169 => ((chunk_part.f t165 t167 bt169.1).bind fun bt171 => (if bt171.2.2 = 0 then ((Builder_WriteString.f bt169.2 bt171.1).bind fun bt174 => (chunk_Decode.l0 kj4 bt171.2.1 bt174.2.2)) else (some ((⟨#[]⟩ : ByteArray), (⟨#[]⟩ : ByteArray), bt171.2.2)))))) = some (r1, r2, r3) := by rw [if_neg (show ¬ (false = true) by decide)] at H; exact H
            clear H
            have H := H1
            clear H1
            by_cases c10 : t167 = 0
            · rw [if_pos c10] at H
              have c10b0 : (t167 == 0) = true := beq_iff_eq.mpr c10
              have c10b1 : (t167 != 0) = false := bne_eq_false_iff_eq.mpr c10
              clear c10
              replace H := Option.bind_eq_some_iff.mp H
              obtain ⟨⟨t177, t178, t179⟩, A110, H⟩ := H
              replace H : (if t179 = 0 then ((Builder_String.f x164000_1).bind fun bt182 => (some (bt182.1, t178, 0))) else (some ((⟨#[]⟩ : ByteArray), (⟨#[]⟩ : ByteArray), 190))) = some (r1, r2, r3) := H
              have A11 := Aside0.mk A110
              clear A110
              by_cases c12 : t179 = 0
              · rw [if_pos c12] at H
                have c12b0 : (t179 == 0) = true := beq_iff_eq.mpr c12
                have c12b1 : (t179 != 0) = false := bne_eq_false_iff_eq.mpr c12
                clear c12
                replace H := Option.bind_eq_some_iff.mp H
                obtain ⟨⟨t182, t183⟩, A130, H⟩ := H
                replace H : (some (t182, t178, 0)) = some (r1, r2, r3) := H
                have A13 := Aside0.mk A130
                clear A130
                simp only [Option.some.injEq, Prod.mk.injEq] at H
                obtain ⟨rfl, rfl, rfl⟩ := H
                go_wp2_with (first | ((with_reducible refine gate_callee (f := 35) rfl ?_); refine goesL_ (some 52) rfl rfl Tryz.func35 (by kernel_rfl) rfl #[.string t165] rfl (by (try simp only [List.map_toArray, List.map_cons, List.map_nil]); first | done | rfl | (simp only [List.length_drop, List.length_take]; rfl)) ?_; (with_reducible refine (field_Parse.calls t165 t177 t178 t179 _ ?side1 A11.out).mono ?_); (case side1 => exact Glob.below hGA.out (by repeat (first | (with_reducible first | exact HB.out | apply below_alloc | apply pw_below_drewN | apply below_drew1 | refine below_set ?_ (IsS54.ge HI163.out)) | exact HB.out))); rintro e w14 ⟨v180, rfl, ho0, hb⟩; refine ⟨_, rfl, ?_⟩; have n0_ := Aside0.mk (Kd.R_lower ho0 (below_size (by repeat (first | (with_reducible first | exact HB.out | apply below_alloc | apply pw_below_drewN | apply below_drew1 | refine below_set ?_ (IsS54.ge HI163.out)) | exact HB.out)))); have n1_ := Aside0.mk (IsS54.below (by repeat (first | (with_reducible first | exact HI163.out | apply IsS54.alloc | apply IsS54.drewN | apply IsS54.drew) | exact HI163.out)) hb); have n2_ := Aside0.mk (below_step (by repeat (first | (with_reducible first | exact HB.out | apply below_alloc | apply pw_below_drewN | apply below_drew1 | refine below_set ?_ (IsS54.ge HI163.out)) | exact HB.out)) hb); clear HI163; clear HB; have HO181 := n0_; have HI163 := n1_; have HB := n2_; clear n0_ n1_ n2_; (try clear hb); (try clear hb2); (try clear hk); (try clear hi); (try clear ho0)) | ((with_reducible refine gate_callee (f := 29) rfl ?_); refine goesL_ (some 58) rfl rfl Tryz.func29 (by kernel_rfl) rfl #[.pointer (some ⟨gb163, 0, none⟩)] rfl (by (try simp only [List.map_toArray, List.map_cons, List.map_nil]); first | done | rfl | (simp only [List.length_drop, List.length_take]; rfl)) ?_; (with_reducible refine (Builder_String.calls gb163 x164000_1 t182 t183 w _ ?side1 ?side2 A13.out).mono ?_); (case side1 => repeat (first | (with_reducible first | exact HI163.out | apply IsS54.alloc | apply IsS54.drewN | apply IsS54.drew) | exact HI163.out)); (case side2 => repeat (first | (with_reducible first | exact HB.out | apply below_alloc | apply pw_below_drewN | apply below_drew1 | refine below_set ?_ (IsS54.ge HI163.out)) | exact HB.out)); rintro e w15 ⟨rfl, hi, hb, hk⟩; refine ⟨_, rfl, ?_⟩; have n0_ := Aside0.mk (Kd.R_mono (R_keepB (IsS54.apart (show IsS54 w _ gb163 x164000_1 from by repeat (first | (with_reducible first | exact HI163.out | apply IsS54.alloc | apply IsS54.drewN | apply IsS54.drew) | exact HI163.out)) (by (with_reducible repeat (first | apply Kd.R_alloc | apply Kd.R_drewN | apply Kd.R_drew)); exact HO181.out) (by decide)) hk (by decide)) (fun _ h => h.1)); have n1_ := Aside0.mk (hb); have n2_ := Aside0.mk (hi); clear HO181; clear HB; clear HI163; have HO181 := n0_; have HB := n1_; have HI163 := n2_; clear n0_ n1_ n2_; (try clear hb); (try clear hk); (try clear hi)))
                try (refine wp_scope_straight ?_; go_wp2_with (first | ((with_reducible refine gate_callee (f := 35) rfl ?_); refine goesL_ (some 52) rfl rfl Tryz.func35 (by kernel_rfl) rfl #[.string t165] rfl (by (try simp only [List.map_toArray, List.map_cons, List.map_nil]); first | done | rfl | (simp only [List.length_drop, List.length_take]; rfl)) ?_; (with_reducible refine (field_Parse.calls t165 t177 t178 t179 _ ?side1 A11.out).mono ?_); (case side1 => exact Glob.below hGA.out (by repeat (first | (with_reducible first | exact HB.out | apply below_alloc | apply pw_below_drewN | apply below_drew1 | refine below_set ?_ (IsS54.ge HI163.out)) | exact HB.out))); rintro e w14 ⟨v180, rfl, ho0, hb⟩; refine ⟨_, rfl, ?_⟩; have n0_ := Aside0.mk (Kd.R_lower ho0 (below_size (by repeat (first | (with_reducible first | exact HB.out | apply below_alloc | apply pw_below_drewN | apply below_drew1 | refine below_set ?_ (IsS54.ge HI163.out)) | exact HB.out)))); have n1_ := Aside0.mk (IsS54.below (by repeat (first | (with_reducible first | exact HI163.out | apply IsS54.alloc | apply IsS54.drewN | apply IsS54.drew) | exact HI163.out)) hb); have n2_ := Aside0.mk (below_step (by repeat (first | (with_reducible first | exact HB.out | apply below_alloc | apply pw_below_drewN | apply below_drew1 | refine below_set ?_ (IsS54.ge HI163.out)) | exact HB.out)) hb); clear HI163; clear HB; have HO181 := n0_; have HI163 := n1_; have HB := n2_; clear n0_ n1_ n2_; (try clear hb); (try clear hb2); (try clear hk); (try clear hi); (try clear ho0)) | ((with_reducible refine gate_callee (f := 29) rfl ?_); refine goesL_ (some 58) rfl rfl Tryz.func29 (by kernel_rfl) rfl #[.pointer (some ⟨gb163, 0, none⟩)] rfl (by (try simp only [List.map_toArray, List.map_cons, List.map_nil]); first | done | rfl | (simp only [List.length_drop, List.length_take]; rfl)) ?_; (with_reducible refine (Builder_String.calls gb163 x164000_1 t182 t183 w _ ?side1 ?side2 A13.out).mono ?_); (case side1 => repeat (first | (with_reducible first | exact HI163.out | apply IsS54.alloc | apply IsS54.drewN | apply IsS54.drew) | exact HI163.out)); (case side2 => repeat (first | (with_reducible first | exact HB.out | apply below_alloc | apply pw_below_drewN | apply below_drew1 | refine below_set ?_ (IsS54.ge HI163.out)) | exact HB.out)); rintro e w15 ⟨rfl, hi, hb, hk⟩; refine ⟨_, rfl, ?_⟩; have n0_ := Aside0.mk (Kd.R_mono (R_keepB (IsS54.apart (show IsS54 w _ gb163 x164000_1 from by repeat (first | (with_reducible first | exact HI163.out | apply IsS54.alloc | apply IsS54.drewN | apply IsS54.drew) | exact HI163.out)) (by (with_reducible repeat (first | apply Kd.R_alloc | apply Kd.R_drewN | apply Kd.R_drew)); exact HO181.out) (by decide)) hk (by decide)) (fun _ h => h.1)); have n1_ := Aside0.mk (hb); have n2_ := Aside0.mk (hi); clear HO181; clear HB; clear HI163; have HO181 := n0_; have HB := n1_; have HI163 := n2_; clear n0_ n1_ n2_; (try clear hb); (try clear hk); (try clear hi))))
                try (with_reducible apply wp_label; go_wp2_with (first | ((with_reducible refine gate_callee (f := 35) rfl ?_); refine goesL_ (some 52) rfl rfl Tryz.func35 (by kernel_rfl) rfl #[.string t165] rfl (by (try simp only [List.map_toArray, List.map_cons, List.map_nil]); first | done | rfl | (simp only [List.length_drop, List.length_take]; rfl)) ?_; (with_reducible refine (field_Parse.calls t165 t177 t178 t179 _ ?side1 A11.out).mono ?_); (case side1 => exact Glob.below hGA.out (by repeat (first | (with_reducible first | exact HB.out | apply below_alloc | apply pw_below_drewN | apply below_drew1 | refine below_set ?_ (IsS54.ge HI163.out)) | exact HB.out))); rintro e w14 ⟨v180, rfl, ho0, hb⟩; refine ⟨_, rfl, ?_⟩; have n0_ := Aside0.mk (Kd.R_lower ho0 (below_size (by repeat (first | (with_reducible first | exact HB.out | apply below_alloc | apply pw_below_drewN | apply below_drew1 | refine below_set ?_ (IsS54.ge HI163.out)) | exact HB.out)))); have n1_ := Aside0.mk (IsS54.below (by repeat (first | (with_reducible first | exact HI163.out | apply IsS54.alloc | apply IsS54.drewN | apply IsS54.drew) | exact HI163.out)) hb); have n2_ := Aside0.mk (below_step (by repeat (first | (with_reducible first | exact HB.out | apply below_alloc | apply pw_below_drewN | apply below_drew1 | refine below_set ?_ (IsS54.ge HI163.out)) | exact HB.out)) hb); clear HI163; clear HB; have HO181 := n0_; have HI163 := n1_; have HB := n2_; clear n0_ n1_ n2_; (try clear hb); (try clear hb2); (try clear hk); (try clear hi); (try clear ho0)) | ((with_reducible refine gate_callee (f := 29) rfl ?_); refine goesL_ (some 58) rfl rfl Tryz.func29 (by kernel_rfl) rfl #[.pointer (some ⟨gb163, 0, none⟩)] rfl (by (try simp only [List.map_toArray, List.map_cons, List.map_nil]); first | done | rfl | (simp only [List.length_drop, List.length_take]; rfl)) ?_; (with_reducible refine (Builder_String.calls gb163 x164000_1 t182 t183 w _ ?side1 ?side2 A13.out).mono ?_); (case side1 => repeat (first | (with_reducible first | exact HI163.out | apply IsS54.alloc | apply IsS54.drewN | apply IsS54.drew) | exact HI163.out)); (case side2 => repeat (first | (with_reducible first | exact HB.out | apply below_alloc | apply pw_below_drewN | apply below_drew1 | refine below_set ?_ (IsS54.ge HI163.out)) | exact HB.out)); rintro e w15 ⟨rfl, hi, hb, hk⟩; refine ⟨_, rfl, ?_⟩; have n0_ := Aside0.mk (Kd.R_mono (R_keepB (IsS54.apart (show IsS54 w _ gb163 x164000_1 from by repeat (first | (with_reducible first | exact HI163.out | apply IsS54.alloc | apply IsS54.drewN | apply IsS54.drew) | exact HI163.out)) (by (with_reducible repeat (first | apply Kd.R_alloc | apply Kd.R_drewN | apply Kd.R_drew)); exact HO181.out) (by decide)) hk (by decide)) (fun _ h => h.1)); have n1_ := Aside0.mk (hb); have n2_ := Aside0.mk (hi); clear HO181; clear HB; clear HI163; have HO181 := n0_; have HB := n1_; have HI163 := n2_; clear n0_ n1_ n2_; (try clear hb); (try clear hk); (try clear hi))))
                try dsimp only [Exit.noGoto]
                go_ret3
                exact ⟨by first | rfl | (simp [errW_none, errW_some, bne_nil_] <;> rfl) | (simp [*, errW_none, errW_some] <;> rfl), by repeat (first | (with_reducible first | exact HB.out | apply below_alloc | apply pw_below_drewN | apply below_drew1 | refine below_set ?_ (IsS54.ge HI163.out)) | exact HB.out)⟩
              · rw [if_neg c12] at H
                have c12b0 : (t179 == 0) = false := beq_eq_false_iff_ne.mpr c12
                have c12b1 : (t179 != 0) = true := bne_iff_ne.mpr c12
                simp only [Option.some.injEq, Prod.mk.injEq] at H
                obtain ⟨rfl, rfl, rfl⟩ := H
                go_wp2_with (first | ((with_reducible refine gate_callee (f := 35) rfl ?_); refine goesL_ (some 52) rfl rfl Tryz.func35 (by kernel_rfl) rfl #[.string t165] rfl (by (try simp only [List.map_toArray, List.map_cons, List.map_nil]); first | done | rfl | (simp only [List.length_drop, List.length_take]; rfl)) ?_; (with_reducible refine (field_Parse.calls t165 t177 t178 t179 _ ?side1 A11.out).mono ?_); (case side1 => exact Glob.below hGA.out (by repeat (first | (with_reducible first | exact HB.out | apply below_alloc | apply pw_below_drewN | apply below_drew1 | refine below_set ?_ (IsS54.ge HI163.out)) | exact HB.out))); rintro e w16 ⟨v180, rfl, ho0, hb⟩; refine ⟨_, rfl, ?_⟩; have n0_ := Aside0.mk (Kd.R_lower ho0 (below_size (by repeat (first | (with_reducible first | exact HB.out | apply below_alloc | apply pw_below_drewN | apply below_drew1 | refine below_set ?_ (IsS54.ge HI163.out)) | exact HB.out)))); have n1_ := Aside0.mk (IsS54.below (by repeat (first | (with_reducible first | exact HI163.out | apply IsS54.alloc | apply IsS54.drewN | apply IsS54.drew) | exact HI163.out)) hb); have n2_ := Aside0.mk (below_step (by repeat (first | (with_reducible first | exact HB.out | apply below_alloc | apply pw_below_drewN | apply below_drew1 | refine below_set ?_ (IsS54.ge HI163.out)) | exact HB.out)) hb); clear HI163; clear HB; have HO181 := n0_; have HI163 := n1_; have HB := n2_; clear n0_ n1_ n2_; (try clear hb); (try clear hb2); (try clear hk); (try clear hi); (try clear ho0)))
                try (refine wp_scope_straight ?_; go_wp2_with (first | ((with_reducible refine gate_callee (f := 35) rfl ?_); refine goesL_ (some 52) rfl rfl Tryz.func35 (by kernel_rfl) rfl #[.string t165] rfl (by (try simp only [List.map_toArray, List.map_cons, List.map_nil]); first | done | rfl | (simp only [List.length_drop, List.length_take]; rfl)) ?_; (with_reducible refine (field_Parse.calls t165 t177 t178 t179 _ ?side1 A11.out).mono ?_); (case side1 => exact Glob.below hGA.out (by repeat (first | (with_reducible first | exact HB.out | apply below_alloc | apply pw_below_drewN | apply below_drew1 | refine below_set ?_ (IsS54.ge HI163.out)) | exact HB.out))); rintro e w16 ⟨v180, rfl, ho0, hb⟩; refine ⟨_, rfl, ?_⟩; have n0_ := Aside0.mk (Kd.R_lower ho0 (below_size (by repeat (first | (with_reducible first | exact HB.out | apply below_alloc | apply pw_below_drewN | apply below_drew1 | refine below_set ?_ (IsS54.ge HI163.out)) | exact HB.out)))); have n1_ := Aside0.mk (IsS54.below (by repeat (first | (with_reducible first | exact HI163.out | apply IsS54.alloc | apply IsS54.drewN | apply IsS54.drew) | exact HI163.out)) hb); have n2_ := Aside0.mk (below_step (by repeat (first | (with_reducible first | exact HB.out | apply below_alloc | apply pw_below_drewN | apply below_drew1 | refine below_set ?_ (IsS54.ge HI163.out)) | exact HB.out)) hb); clear HI163; clear HB; have HO181 := n0_; have HI163 := n1_; have HB := n2_; clear n0_ n1_ n2_; (try clear hb); (try clear hb2); (try clear hk); (try clear hi); (try clear ho0))))
                try (with_reducible apply wp_label; go_wp2_with (first | ((with_reducible refine gate_callee (f := 35) rfl ?_); refine goesL_ (some 52) rfl rfl Tryz.func35 (by kernel_rfl) rfl #[.string t165] rfl (by (try simp only [List.map_toArray, List.map_cons, List.map_nil]); first | done | rfl | (simp only [List.length_drop, List.length_take]; rfl)) ?_; (with_reducible refine (field_Parse.calls t165 t177 t178 t179 _ ?side1 A11.out).mono ?_); (case side1 => exact Glob.below hGA.out (by repeat (first | (with_reducible first | exact HB.out | apply below_alloc | apply pw_below_drewN | apply below_drew1 | refine below_set ?_ (IsS54.ge HI163.out)) | exact HB.out))); rintro e w16 ⟨v180, rfl, ho0, hb⟩; refine ⟨_, rfl, ?_⟩; have n0_ := Aside0.mk (Kd.R_lower ho0 (below_size (by repeat (first | (with_reducible first | exact HB.out | apply below_alloc | apply pw_below_drewN | apply below_drew1 | refine below_set ?_ (IsS54.ge HI163.out)) | exact HB.out)))); have n1_ := Aside0.mk (IsS54.below (by repeat (first | (with_reducible first | exact HI163.out | apply IsS54.alloc | apply IsS54.drewN | apply IsS54.drew) | exact HI163.out)) hb); have n2_ := Aside0.mk (below_step (by repeat (first | (with_reducible first | exact HB.out | apply below_alloc | apply pw_below_drewN | apply below_drew1 | refine below_set ?_ (IsS54.ge HI163.out)) | exact HB.out)) hb); clear HI163; clear HB; have HO181 := n0_; have HI163 := n1_; have HB := n2_; clear n0_ n1_ n2_; (try clear hb); (try clear hb2); (try clear hk); (try clear hi); (try clear ho0))))
                try dsimp only [Exit.noGoto]
                go_ret3
                exact ⟨by first | rfl | (simp [errW_none, errW_some, bne_nil_] <;> rfl) | (simp [*, errW_none, errW_some] <;> rfl), by repeat (first | (with_reducible first | exact HB.out | apply below_alloc | apply pw_below_drewN | apply below_drew1 | refine below_set ?_ (IsS54.ge HI163.out)) | exact HB.out)⟩
            · rw [if_neg c10] at H
              have c10b0 : (t167 == 0) = false := beq_eq_false_iff_ne.mpr c10
              have c10b1 : (t167 != 0) = true := bne_iff_ne.mpr c10
              replace H := Option.bind_eq_some_iff.mp H
              obtain ⟨⟨t169, t170⟩, A170, H⟩ := H
              replace H : ((chunk_part.f t165 t167 t169).bind fun bt171 => (if bt171.2.2 = 0 then ((Builder_WriteString.f t170 bt171.1).bind fun bt174 => (chunk_Decode.l0 kj4 bt171.2.1 bt174.2.2)) else (some ((⟨#[]⟩ : ByteArray), (⟨#[]⟩ : ByteArray), bt171.2.2)))) = some (r1, r2, r3) := H
              have A17 := Aside0.mk A170
              clear A170
              replace H := Option.bind_eq_some_iff.mp H
              obtain ⟨⟨t171, t172, t173⟩, A180, H⟩ := H
              replace H : (if t173 = 0 then ((Builder_WriteString.f t170 t171).bind fun bt174 => (chunk_Decode.l0 kj4 t172 bt174.2.2)) else (some ((⟨#[]⟩ : ByteArray), (⟨#[]⟩ : ByteArray), t173))) = some (r1, r2, r3) := H
              have A18 := Aside0.mk A180
              clear A180
              by_cases c19 : t173 = 0
              · rw [if_pos c19] at H
                have c19b0 : (t173 == 0) = true := beq_iff_eq.mpr c19
                have c19b1 : (t173 != 0) = false := bne_eq_false_iff_eq.mpr c19
                clear c19
                replace H := Option.bind_eq_some_iff.mp H
                obtain ⟨⟨t174, t175, t176⟩, A200, H⟩ := H
                replace H : (chunk_Decode.l0 kj4 t172 t176) = some (r1, r2, r3) := H
                have A20 := Aside0.mk A200
                clear A200
                have H' := Aside0.mk H
                clear H
                go_wp2_with (first | ((with_reducible refine gate_callee (f := 34) rfl ?_); refine goesL_ (some 39) rfl rfl Tryz.func34 (by kernel_rfl) rfl #[.pointer (some ⟨gb163, 0, none⟩)] rfl (by (try simp only [List.map_toArray, List.map_cons, List.map_nil]); first | done | rfl | (simp only [List.length_drop, List.length_take]; rfl)) ?_; (with_reducible refine (Builder_Len.calls gb163 x164000_1 t169 t170 w _ ?side1 ?side2 A17.out).mono ?_); (case side1 => repeat (first | (with_reducible first | exact HI163.out | apply IsS54.alloc | apply IsS54.drewN | apply IsS54.drew) | exact HI163.out)); (case side2 => repeat (first | (with_reducible first | exact HB.out | apply below_alloc | apply pw_below_drewN | apply below_drew1 | refine below_set ?_ (IsS54.ge HI163.out)) | exact HB.out)); rintro e w21 ⟨rfl, hi, hb, hk⟩; refine ⟨_, rfl, ?_⟩; have n0_ := Aside0.mk (hb); have n1_ := Aside0.mk (hi); clear HB; clear HI163; have HB := n0_; have HI163 := n1_; clear n0_ n1_; (try clear hb); (try clear hk); (try clear hi)) | ((with_reducible refine gate_callee (f := 33) rfl ?_); refine goesL_ (some 40) rfl rfl Tryz.func33 (by kernel_rfl) rfl #[.string t165, .int .i64 t167, .int .i64 t169] rfl (by (try simp only [List.map_toArray, List.map_cons, List.map_nil]); first | done | rfl | (simp only [List.length_drop, List.length_take]; rfl)) ?_; (with_reducible refine (chunk_part.calls t165 t167 t169 t171 t172 t173 _ A18.out).mono ?_); rintro e w' ⟨rfl, ⟨nd, rfl⟩⟩; refine ⟨_, rfl, ?_⟩) | ((with_reducible refine gate_callee (f := 27) rfl ?_); refine goesL_ (some 48) rfl rfl Tryz.func27 (by kernel_rfl) rfl #[.pointer (some ⟨gb163, 0, none⟩), .string t171] rfl (by (try simp only [List.map_toArray, List.map_cons, List.map_nil]); first | done | rfl | (simp only [List.length_drop, List.length_take]; rfl)) ?_; (with_reducible refine (Builder_WriteString.calls gb163 t170 t171 t174 t175 t176 w _ ?side1 ?side2 A20.out).mono ?_); (case side1 => repeat (first | (with_reducible first | exact HI163.out | apply IsS54.alloc | apply IsS54.drewN | apply IsS54.drew) | exact HI163.out)); (case side2 => repeat (first | (with_reducible first | exact HB.out | apply below_alloc | apply pw_below_drewN | apply below_drew1 | refine below_set ?_ (IsS54.ge HI163.out)) | exact HB.out)); rintro e w22 ⟨rfl, hi, hb, hk⟩; refine ⟨_, rfl, ?_⟩; have n0_ := Aside0.mk (hb); have n1_ := Aside0.mk (hi); clear HB; clear HI163; have HB := n0_; have HI163 := n1_; clear n0_ n1_; (try clear hb); (try clear hk); (try clear hi); (try simp only [errW_none, errW_some])))
                try (refine wp_scope_straight ?_; go_wp2_with (first | ((with_reducible refine gate_callee (f := 34) rfl ?_); refine goesL_ (some 39) rfl rfl Tryz.func34 (by kernel_rfl) rfl #[.pointer (some ⟨gb163, 0, none⟩)] rfl (by (try simp only [List.map_toArray, List.map_cons, List.map_nil]); first | done | rfl | (simp only [List.length_drop, List.length_take]; rfl)) ?_; (with_reducible refine (Builder_Len.calls gb163 x164000_1 t169 t170 w _ ?side1 ?side2 A17.out).mono ?_); (case side1 => repeat (first | (with_reducible first | exact HI163.out | apply IsS54.alloc | apply IsS54.drewN | apply IsS54.drew) | exact HI163.out)); (case side2 => repeat (first | (with_reducible first | exact HB.out | apply below_alloc | apply pw_below_drewN | apply below_drew1 | refine below_set ?_ (IsS54.ge HI163.out)) | exact HB.out)); rintro e w21 ⟨rfl, hi, hb, hk⟩; refine ⟨_, rfl, ?_⟩; have n0_ := Aside0.mk (hb); have n1_ := Aside0.mk (hi); clear HB; clear HI163; have HB := n0_; have HI163 := n1_; clear n0_ n1_; (try clear hb); (try clear hk); (try clear hi)) | ((with_reducible refine gate_callee (f := 33) rfl ?_); refine goesL_ (some 40) rfl rfl Tryz.func33 (by kernel_rfl) rfl #[.string t165, .int .i64 t167, .int .i64 t169] rfl (by (try simp only [List.map_toArray, List.map_cons, List.map_nil]); first | done | rfl | (simp only [List.length_drop, List.length_take]; rfl)) ?_; (with_reducible refine (chunk_part.calls t165 t167 t169 t171 t172 t173 _ A18.out).mono ?_); rintro e w' ⟨rfl, ⟨nd, rfl⟩⟩; refine ⟨_, rfl, ?_⟩) | ((with_reducible refine gate_callee (f := 27) rfl ?_); refine goesL_ (some 48) rfl rfl Tryz.func27 (by kernel_rfl) rfl #[.pointer (some ⟨gb163, 0, none⟩), .string t171] rfl (by (try simp only [List.map_toArray, List.map_cons, List.map_nil]); first | done | rfl | (simp only [List.length_drop, List.length_take]; rfl)) ?_; (with_reducible refine (Builder_WriteString.calls gb163 t170 t171 t174 t175 t176 w _ ?side1 ?side2 A20.out).mono ?_); (case side1 => repeat (first | (with_reducible first | exact HI163.out | apply IsS54.alloc | apply IsS54.drewN | apply IsS54.drew) | exact HI163.out)); (case side2 => repeat (first | (with_reducible first | exact HB.out | apply below_alloc | apply pw_below_drewN | apply below_drew1 | refine below_set ?_ (IsS54.ge HI163.out)) | exact HB.out)); rintro e w22 ⟨rfl, hi, hb, hk⟩; refine ⟨_, rfl, ?_⟩; have n0_ := Aside0.mk (hb); have n1_ := Aside0.mk (hi); clear HB; clear HI163; have HB := n0_; have HI163 := n1_; clear n0_ n1_; (try clear hb); (try clear hk); (try clear hi); (try simp only [errW_none, errW_some]))))
                try (with_reducible apply wp_label; go_wp2_with (first | ((with_reducible refine gate_callee (f := 34) rfl ?_); refine goesL_ (some 39) rfl rfl Tryz.func34 (by kernel_rfl) rfl #[.pointer (some ⟨gb163, 0, none⟩)] rfl (by (try simp only [List.map_toArray, List.map_cons, List.map_nil]); first | done | rfl | (simp only [List.length_drop, List.length_take]; rfl)) ?_; (with_reducible refine (Builder_Len.calls gb163 x164000_1 t169 t170 w _ ?side1 ?side2 A17.out).mono ?_); (case side1 => repeat (first | (with_reducible first | exact HI163.out | apply IsS54.alloc | apply IsS54.drewN | apply IsS54.drew) | exact HI163.out)); (case side2 => repeat (first | (with_reducible first | exact HB.out | apply below_alloc | apply pw_below_drewN | apply below_drew1 | refine below_set ?_ (IsS54.ge HI163.out)) | exact HB.out)); rintro e w21 ⟨rfl, hi, hb, hk⟩; refine ⟨_, rfl, ?_⟩; have n0_ := Aside0.mk (hb); have n1_ := Aside0.mk (hi); clear HB; clear HI163; have HB := n0_; have HI163 := n1_; clear n0_ n1_; (try clear hb); (try clear hk); (try clear hi)) | ((with_reducible refine gate_callee (f := 33) rfl ?_); refine goesL_ (some 40) rfl rfl Tryz.func33 (by kernel_rfl) rfl #[.string t165, .int .i64 t167, .int .i64 t169] rfl (by (try simp only [List.map_toArray, List.map_cons, List.map_nil]); first | done | rfl | (simp only [List.length_drop, List.length_take]; rfl)) ?_; (with_reducible refine (chunk_part.calls t165 t167 t169 t171 t172 t173 _ A18.out).mono ?_); rintro e w' ⟨rfl, ⟨nd, rfl⟩⟩; refine ⟨_, rfl, ?_⟩) | ((with_reducible refine gate_callee (f := 27) rfl ?_); refine goesL_ (some 48) rfl rfl Tryz.func27 (by kernel_rfl) rfl #[.pointer (some ⟨gb163, 0, none⟩), .string t171] rfl (by (try simp only [List.map_toArray, List.map_cons, List.map_nil]); first | done | rfl | (simp only [List.length_drop, List.length_take]; rfl)) ?_; (with_reducible refine (Builder_WriteString.calls gb163 t170 t171 t174 t175 t176 w _ ?side1 ?side2 A20.out).mono ?_); (case side1 => repeat (first | (with_reducible first | exact HI163.out | apply IsS54.alloc | apply IsS54.drewN | apply IsS54.drew) | exact HI163.out)); (case side2 => repeat (first | (with_reducible first | exact HB.out | apply below_alloc | apply pw_below_drewN | apply below_drew1 | refine below_set ?_ (IsS54.ge HI163.out)) | exact HB.out)); rintro e w22 ⟨rfl, hi, hb, hk⟩; refine ⟨_, rfl, ?_⟩; have n0_ := Aside0.mk (hb); have n1_ := Aside0.mk (hi); clear HB; clear HI163; have HB := n0_; have HI163 := n1_; clear n0_ n1_; (try clear hb); (try clear hk); (try clear hi); (try simp only [errW_none, errW_some]))))
                go_roundg kj4
                case measure => have := HK1.out; have := HJ4.out; omega
                case rel => exact ⟨(t172), (t176), (by first | rfl | (simp; done) | (simp [*]; done)), H', ⟨by have := HK1.out; have := HJ4.out; omega⟩, ⟨by repeat (first | (with_reducible first | exact HI163.out | apply IsS54.alloc | apply IsS54.drewN | apply IsS54.drew) | exact HI163.out)⟩, ⟨by repeat (first | (with_reducible first | exact HB.out | apply below_alloc | apply pw_below_drewN | apply below_drew1 | refine below_set ?_ (IsS54.ge HI163.out)) | exact HB.out)⟩⟩
              · rw [if_neg c19] at H
                have c19b0 : (t173 == 0) = false := beq_eq_false_iff_ne.mpr c19
                have c19b1 : (t173 != 0) = true := bne_iff_ne.mpr c19
                simp only [Option.some.injEq, Prod.mk.injEq] at H
                obtain ⟨rfl, rfl, rfl⟩ := H
                go_wp2_with (first | ((with_reducible refine gate_callee (f := 34) rfl ?_); refine goesL_ (some 39) rfl rfl Tryz.func34 (by kernel_rfl) rfl #[.pointer (some ⟨gb163, 0, none⟩)] rfl (by (try simp only [List.map_toArray, List.map_cons, List.map_nil]); first | done | rfl | (simp only [List.length_drop, List.length_take]; rfl)) ?_; (with_reducible refine (Builder_Len.calls gb163 x164000_1 t169 t170 w _ ?side1 ?side2 A17.out).mono ?_); (case side1 => repeat (first | (with_reducible first | exact HI163.out | apply IsS54.alloc | apply IsS54.drewN | apply IsS54.drew) | exact HI163.out)); (case side2 => repeat (first | (with_reducible first | exact HB.out | apply below_alloc | apply pw_below_drewN | apply below_drew1 | refine below_set ?_ (IsS54.ge HI163.out)) | exact HB.out)); rintro e w23 ⟨rfl, hi, hb, hk⟩; refine ⟨_, rfl, ?_⟩; have n0_ := Aside0.mk (hb); have n1_ := Aside0.mk (hi); clear HB; clear HI163; have HB := n0_; have HI163 := n1_; clear n0_ n1_; (try clear hb); (try clear hk); (try clear hi)) | ((with_reducible refine gate_callee (f := 33) rfl ?_); refine goesL_ (some 40) rfl rfl Tryz.func33 (by kernel_rfl) rfl #[.string t165, .int .i64 t167, .int .i64 t169] rfl (by (try simp only [List.map_toArray, List.map_cons, List.map_nil]); first | done | rfl | (simp only [List.length_drop, List.length_take]; rfl)) ?_; (with_reducible refine (chunk_part.calls t165 t167 t169 t171 t172 t173 _ A18.out).mono ?_); rintro e w' ⟨rfl, ⟨nd, rfl⟩⟩; refine ⟨_, rfl, ?_⟩))
                try (refine wp_scope_straight ?_; go_wp2_with (first | ((with_reducible refine gate_callee (f := 34) rfl ?_); refine goesL_ (some 39) rfl rfl Tryz.func34 (by kernel_rfl) rfl #[.pointer (some ⟨gb163, 0, none⟩)] rfl (by (try simp only [List.map_toArray, List.map_cons, List.map_nil]); first | done | rfl | (simp only [List.length_drop, List.length_take]; rfl)) ?_; (with_reducible refine (Builder_Len.calls gb163 x164000_1 t169 t170 w _ ?side1 ?side2 A17.out).mono ?_); (case side1 => repeat (first | (with_reducible first | exact HI163.out | apply IsS54.alloc | apply IsS54.drewN | apply IsS54.drew) | exact HI163.out)); (case side2 => repeat (first | (with_reducible first | exact HB.out | apply below_alloc | apply pw_below_drewN | apply below_drew1 | refine below_set ?_ (IsS54.ge HI163.out)) | exact HB.out)); rintro e w23 ⟨rfl, hi, hb, hk⟩; refine ⟨_, rfl, ?_⟩; have n0_ := Aside0.mk (hb); have n1_ := Aside0.mk (hi); clear HB; clear HI163; have HB := n0_; have HI163 := n1_; clear n0_ n1_; (try clear hb); (try clear hk); (try clear hi)) | ((with_reducible refine gate_callee (f := 33) rfl ?_); refine goesL_ (some 40) rfl rfl Tryz.func33 (by kernel_rfl) rfl #[.string t165, .int .i64 t167, .int .i64 t169] rfl (by (try simp only [List.map_toArray, List.map_cons, List.map_nil]); first | done | rfl | (simp only [List.length_drop, List.length_take]; rfl)) ?_; (with_reducible refine (chunk_part.calls t165 t167 t169 t171 t172 t173 _ A18.out).mono ?_); rintro e w' ⟨rfl, ⟨nd, rfl⟩⟩; refine ⟨_, rfl, ?_⟩)))
                try (with_reducible apply wp_label; go_wp2_with (first | ((with_reducible refine gate_callee (f := 34) rfl ?_); refine goesL_ (some 39) rfl rfl Tryz.func34 (by kernel_rfl) rfl #[.pointer (some ⟨gb163, 0, none⟩)] rfl (by (try simp only [List.map_toArray, List.map_cons, List.map_nil]); first | done | rfl | (simp only [List.length_drop, List.length_take]; rfl)) ?_; (with_reducible refine (Builder_Len.calls gb163 x164000_1 t169 t170 w _ ?side1 ?side2 A17.out).mono ?_); (case side1 => repeat (first | (with_reducible first | exact HI163.out | apply IsS54.alloc | apply IsS54.drewN | apply IsS54.drew) | exact HI163.out)); (case side2 => repeat (first | (with_reducible first | exact HB.out | apply below_alloc | apply pw_below_drewN | apply below_drew1 | refine below_set ?_ (IsS54.ge HI163.out)) | exact HB.out)); rintro e w23 ⟨rfl, hi, hb, hk⟩; refine ⟨_, rfl, ?_⟩; have n0_ := Aside0.mk (hb); have n1_ := Aside0.mk (hi); clear HB; clear HI163; have HB := n0_; have HI163 := n1_; clear n0_ n1_; (try clear hb); (try clear hk); (try clear hi)) | ((with_reducible refine gate_callee (f := 33) rfl ?_); refine goesL_ (some 40) rfl rfl Tryz.func33 (by kernel_rfl) rfl #[.string t165, .int .i64 t167, .int .i64 t169] rfl (by (try simp only [List.map_toArray, List.map_cons, List.map_nil]); first | done | rfl | (simp only [List.length_drop, List.length_take]; rfl)) ?_; (with_reducible refine (chunk_part.calls t165 t167 t169 t171 t172 t173 _ A18.out).mono ?_); rintro e w' ⟨rfl, ⟨nd, rfl⟩⟩; refine ⟨_, rfl, ?_⟩)))
                try dsimp only [Exit.noGoto]
                go_ret3
                exact ⟨by first | rfl | (simp [errW_none, errW_some, bne_nil_] <;> rfl) | (simp [*, errW_none, errW_some] <;> rfl), by repeat (first | (with_reducible first | exact HB.out | apply below_alloc | apply pw_below_drewN | apply below_drew1 | refine below_set ?_ (IsS54.ge HI163.out)) | exact HB.out)⟩

end Go.Proofs.YteonhdfjfjpbjaaGreatDoor.P

/- Px17 -/
namespace Go.Proofs.YteonhdfjfjpbjaaGreatDoor.P
open Go.Proofs.YteonhdfjfjpbjaaGreatDoor.B
open Go.RowKit Go.Proofs.YteonhdfjfjpbjaaGreatDoorW.PrintWords Go.Proofs.YteonhdfjfjpbjaaGreatDoorW.PrintLast Go.Proofs.YteonhdfjfjpbjaaGreatDoorW.PrintMore
attribute [local go_sem] str_leq str_gtr str_geq max2_int min2_int max_two min_two max_three min_three max_four min_four   -- for this text's walks alone
set_option linter.unusedVariables false
set_option linter.unusedSimpArgs false

/-! ### broadsheetref18_line: function 63 -/
def broadsheetref18_line.l0 : Nat → ByteArray → Int → Option (Int)
  | 0, _, _ => none
  | k + 1, x0, x3 => if (wrap64 (x3 + 1)) < (x0.size : Int) then (if 0 ≤ x3 then (if x3 < (x0.size : Int) then (if (bt x0 x3) = 13 then (if 0 ≤ (wrap64 (x3 + 1)) then (if (bt x0 (wrap64 (x3 + 1))) = 10 then (some x3) else (broadsheetref18_line.l0 k x0 (wrap64 (x3 + 1)))) else (none)) else (broadsheetref18_line.l0 k x0 (wrap64 (x3 + 1)))) else (none)) else (none)) else (some (-1))
def broadsheetref18_line.f (k : Nat) (a0 : ByteArray) : Option (Int) := broadsheetref18_line.l0 k a0 0
theorem broadsheetref18_line.mono_l : ∀ k, (∀ y0 y1, LeO (broadsheetref18_line.l0 k y0 y1) (broadsheetref18_line.l0 (k + 1) y0 y1))
  | 0 => fun _ _ r h => by simp [broadsheetref18_line.l0] at h
  | k + 1 => by
    have ih0 := broadsheetref18_line.mono_l k
    · intro y0 y1
      unfold broadsheetref18_line.l0
      repeat' first
      | (with_reducible exact ih0 _ _)
      | (with_reducible exact LeO.refl _)
      | (with_reducible exact LeO.none _)
      | (with_reducible refine LeO.ite ?_ ?_)
      | (with_reducible refine LeO.bind ?_ (fun _ => ?_))
      | exact ih0 _ _
      | exact LeO.none _
      | refine LeO.ite ?_ ?_
      | refine LeO.bind ?_ (fun _ => ?_)
theorem broadsheetref18_line.mono : ∀ a0 k, LeO (broadsheetref18_line.f k a0) (broadsheetref18_line.f (k + 1) a0) := by
  intro a0 k
  have ih0 := broadsheetref18_line.mono_l k
  unfold broadsheetref18_line.f
  repeat' first
      | (with_reducible exact ih0 _ _)
      | (with_reducible exact LeO.refl _)
      | (with_reducible exact LeO.none _)
      | (with_reducible refine LeO.ite ?_ ?_)
      | (with_reducible refine LeO.bind ?_ (fun _ => ?_))
      | exact ih0 _ _
      | exact LeO.none _
      | refine LeO.ite ?_ ?_
      | refine LeO.bind ?_ (fun _ => ?_)
set_option maxHeartbeats 8000000 in
set_option maxRecDepth 100000 in
theorem broadsheetref18_line.calls (k : Nat) (a0 : ByteArray) (r : Int) (w : World) (h : broadsheetref18_line.f k a0 = some r) :
    Calls Tryz.prog 63 #[.string a0] w fun e w' => e = .returned (.int .i64 r) ∧ Drawn0 w w' := by
  have H : (broadsheetref18_line.l0 k a0 0) = some r := h
  clear h
  have H' := Aside0.mk H
  clear H
  go_enter Tryz.func63, Tryz.ntmps63
  go_wp2
  first | go_loopg [3] k (fun kq v3 w' => ∃ (x3_1 : Int), v3 = .int .i64 x3_1 ∧ Aside0 (broadsheetref18_line.l0 kq a0 x3_1 = some r) ∧ Aside0 (kq ≤ k) ∧ Drawn0 w w') | (go_simp; go_loopg [3] k (fun kq v3 w' => ∃ (x3_1 : Int), v3 = .int .i64 x3_1 ∧ Aside0 (broadsheetref18_line.l0 kq a0 x3_1 = some r) ∧ Aside0 (kq ≤ k) ∧ Drawn0 w w'))
  case atStart => exact ⟨(0), (by first | rfl | (simp; done) | (simp [*]; done)), H', ⟨Nat.le_refl _⟩, by repeat (first | exact Drawn0.refl _ | apply Drawn0.step)⟩
  case round =>
    clear H'
    obtain ⟨x3_1, rfl, HA, HK1, ⟨m1, rfl⟩⟩ := hrel
    cases gk with
    | zero => exact absurd HA.out (by simp [broadsheetref18_line.l0])
    | succ k1 =>
      have H := HA.out
      clear HA
      simp only [broadsheetref18_line.l0] at H
      by_cases c2 : (wrap64 (x3_1 + 1)) < (a0.size : Int)
      · rw [if_pos c2] at H
        have c2b0 : decide ((wrap64 (x3_1 + 1)) < (a0.size : Int)) = true := decide_eq_true c2
        clear c2
        by_cases c3 : 0 ≤ x3_1
        · rw [if_pos c3] at H
          have c3b0 : decide (0 ≤ x3_1) = true := decide_eq_true c3
          clear c3
          by_cases c4 : x3_1 < (a0.size : Int)
          · rw [if_pos c4] at H
            have c4b0 : decide (x3_1 < (a0.size : Int)) = true := decide_eq_true c4
            clear c4
            by_cases c6 : (bt a0 x3_1) = 13
            · rw [if_pos c6] at H
              have c6b0 : ((bt a0 x3_1) == 13) = true := beq_iff_eq.mpr c6
              have c6b1 : ((bt a0 x3_1) != 13) = false := bne_eq_false_iff_eq.mpr c6
              clear c6
              obtain ⟨ji7, hji7⟩ : ∃ j_ : Int, (wrap64 (x3_1 + 1)) = j_ := ⟨_, rfl⟩
              replace H : (if 0 ≤ (ji7) then (if (bt a0 (ji7)) = 10 then (some x3_1) else (broadsheetref18_line.l0 k1 a0 ji7)) else (none)) = some r := by first | (rw [hji7] at H; exact H) | (simp only [hji7] at H ⊢; exact H)
              (try rw [hji7] at c2b0)
              have hji7w : (IntKind.i64.wrap (x3_1 + 1)) = ji7 := (i64_w _).trans hji7
              by_cases c8 : 0 ≤ (ji7)
              · rw [if_pos c8] at H
                have c8b0 : decide (0 ≤ (ji7)) = true := decide_eq_true c8
                clear c8
                by_cases c10 : (bt a0 (ji7)) = 10
                · rw [if_pos c10] at H
                  have c10b0 : ((bt a0 (ji7)) == 10) = true := beq_iff_eq.mpr c10
                  have c10b1 : ((bt a0 (ji7)) != 10) = false := bne_eq_false_iff_eq.mpr c10
                  clear c10
                  obtain rfl := Option.some.inj H
                  have p5 : 0 ≤ (x3_1 : Int) := of_decide_eq_true (by first | (with_reducible assumption) | assumption)
                  have q5 : x3_1 < (a0.size : Int) := of_decide_eq_true (by first | (with_reducible assumption) | assumption)
                  have hx5 := bt_at a0 x3_1
                  replace p5 := eq_true p5
                  replace q5 := eq_true q5
                  have p9 : 0 ≤ ((ji7) : Int) := of_decide_eq_true (by first | (with_reducible assumption) | assumption)
                  have q9 : (ji7) < (a0.size : Int) := of_decide_eq_true (by first | (with_reducible assumption) | assumption)
                  have hx9 := bt_at a0 (ji7)
                  replace p9 := eq_true p9
                  replace q9 := eq_true q9
                  go_wp2
                  go_ret
                  exact ⟨by first | rfl | (simp; done) | (simp only [← hji7] <;> (first | rfl | simp)) | (simp [*]; done), by repeat (first | exact Drawn0.refl _ | apply Drawn0.step)⟩
                · rw [if_neg c10] at H
                  have c10b0 : ((bt a0 (ji7)) == 10) = false := beq_eq_false_iff_ne.mpr c10
                  have c10b1 : ((bt a0 (ji7)) != 10) = true := bne_iff_ne.mpr c10
                  have H' := Aside0.mk H
                  clear H
                  have p5 : 0 ≤ (x3_1 : Int) := of_decide_eq_true (by first | (with_reducible assumption) | assumption)
                  have q5 : x3_1 < (a0.size : Int) := of_decide_eq_true (by first | (with_reducible assumption) | assumption)
                  have hx5 := bt_at a0 x3_1
                  replace p5 := eq_true p5
                  replace q5 := eq_true q5
                  have p9 : 0 ≤ ((ji7) : Int) := of_decide_eq_true (by first | (with_reducible assumption) | assumption)
                  have q9 : (ji7) < (a0.size : Int) := of_decide_eq_true (by first | (with_reducible assumption) | assumption)
                  have hx9 := bt_at a0 (ji7)
                  replace p9 := eq_true p9
                  replace q9 := eq_true q9
                  go_wp2
                  go_roundg k1
                  case measure => have := HK1.out; omega
                  case rel => exact ⟨(ji7), (by first | rfl | (simp; done) | (simp only [← hji7] <;> (first | rfl | simp)) | (simp [*]; done)), H', ⟨by have := HK1.out; omega⟩, by repeat (first | exact Drawn0.refl _ | apply Drawn0.step)⟩
              · rw [if_neg c8] at H
                exact absurd H (by simp)
            · rw [if_neg c6] at H
              have c6b0 : ((bt a0 x3_1) == 13) = false := beq_eq_false_iff_ne.mpr c6
              have c6b1 : ((bt a0 x3_1) != 13) = true := bne_iff_ne.mpr c6
              have H' := Aside0.mk H
              clear H
              have p5 : 0 ≤ (x3_1 : Int) := of_decide_eq_true (by first | (with_reducible assumption) | assumption)
              have q5 : x3_1 < (a0.size : Int) := of_decide_eq_true (by first | (with_reducible assumption) | assumption)
              have hx5 := bt_at a0 x3_1
              replace p5 := eq_true p5
              replace q5 := eq_true q5
              go_wp2
              go_roundg k1
              case measure => have := HK1.out; omega
              case rel => exact ⟨(wrap64 (x3_1 + 1)), (by first | rfl | (simp; done) | (simp [*]; done)), H', ⟨by have := HK1.out; omega⟩, by repeat (first | exact Drawn0.refl _ | apply Drawn0.step)⟩
          · rw [if_neg c4] at H
            exact absurd H (by simp)
        · rw [if_neg c3] at H
          exact absurd H (by simp)
      · rw [if_neg c2] at H
        have c2b0 : decide ((wrap64 (x3_1 + 1)) < (a0.size : Int)) = false := decide_eq_false c2
        clear c2
        obtain rfl := Option.some.inj H
        go_wp2
        go_ret
        exact ⟨by first | rfl | (simp; done) | (simp [*]; done), by repeat (first | exact Drawn0.refl _ | apply Drawn0.step)⟩

end Go.Proofs.YteonhdfjfjpbjaaGreatDoor.P

/- Px18 -/
namespace Go.Proofs.YteonhdfjfjpbjaaGreatDoor.P
open Go.Proofs.YteonhdfjfjpbjaaGreatDoor.B
open Go.RowKit Go.Proofs.YteonhdfjfjpbjaaGreatDoorW.PrintWords Go.Proofs.YteonhdfjfjpbjaaGreatDoorW.PrintLast Go.Proofs.YteonhdfjfjpbjaaGreatDoorW.PrintMore
attribute [local go_sem] str_leq str_gtr str_geq max2_int min2_int max_two min_two max_three min_three max_four min_four   -- for this text's walks alone
set_option linter.unusedVariables false
set_option linter.unusedSimpArgs false

/-! ### broadsheetref18_Line: function 36 -/
def broadsheetref18_Line.f (k : Nat) (a0 : ByteArray) : Option (ByteArray × ByteArray × Bool) := (broadsheetref18_line.f k a0).bind fun t184 => (if t184 < 0 then (some ((⟨#[]⟩ : ByteArray), (⟨#[]⟩ : ByteArray), false)) else (if 0 ≤ t184 then (if t184 ≤ (a0.size : Int) then (if 0 ≤ (wrap64 (t184 + 2)) then (if (wrap64 (t184 + 2)) ≤ (a0.size : Int) then (some (a0.extract 0 (t184 : Int).toNat, a0.extract ((wrap64 (t184 + 2)) : Int).toNat a0.size, true)) else (none)) else (none)) else (none)) else (none)))
theorem broadsheetref18_Line.mono : ∀ a0 k, LeO (broadsheetref18_Line.f k a0) (broadsheetref18_Line.f (k + 1) a0) := by
  intro a0 k
  unfold broadsheetref18_Line.f
  repeat' first
      | (with_reducible exact broadsheetref18_line.mono _ _)
      | (with_reducible exact LeO.refl _)
      | (with_reducible exact LeO.none _)
      | (with_reducible refine LeO.ite ?_ ?_)
      | (with_reducible refine LeO.bind ?_ (fun _ => ?_))
      | exact broadsheetref18_line.mono _ _
      | exact LeO.none _
      | refine LeO.ite ?_ ?_
      | refine LeO.bind ?_ (fun _ => ?_)
set_option maxHeartbeats 8000000 in
set_option maxRecDepth 100000 in
theorem broadsheetref18_Line.calls (k : Nat) (a0 : ByteArray) (r1 : ByteArray) (r2 : ByteArray) (r3 : Bool) (w : World) (h : broadsheetref18_Line.f k a0 = some (r1, r2, r3)) :
    Calls Tryz.prog 36 #[.string a0] w fun e w' => e = .returned (.tuple #[.string r1, .string r2, .bool r3]) ∧ Drawn0 w w' := by
  have H : ((broadsheetref18_line.f k a0).bind fun t184 => (if t184 < 0 then (some ((⟨#[]⟩ : ByteArray), (⟨#[]⟩ : ByteArray), false)) else (if 0 ≤ t184 then (if t184 ≤ (a0.size : Int) then (if 0 ≤ (wrap64 (t184 + 2)) then (if (wrap64 (t184 + 2)) ≤ (a0.size : Int) then (some (a0.extract 0 (t184 : Int).toNat, a0.extract ((wrap64 (t184 + 2)) : Int).toNat a0.size, true)) else (none)) else (none)) else (none)) else (none)))) = some (r1, r2, r3) := h
  clear h
  replace H := Option.bind_eq_some_iff.mp H
  obtain ⟨t184, A20, H⟩ := H
  replace H : (if t184 < 0 then (some ((⟨#[]⟩ : ByteArray), (⟨#[]⟩ : ByteArray), false)) else (if 0 ≤ t184 then (if t184 ≤ (a0.size : Int) then (if 0 ≤ (wrap64 (t184 + 2)) then (if (wrap64 (t184 + 2)) ≤ (a0.size : Int) then (some (a0.extract 0 (t184 : Int).toNat, a0.extract ((wrap64 (t184 + 2)) : Int).toNat a0.size, true)) else (none)) else (none)) else (none)) else (none))) = some (r1, r2, r3) := H
  have A2 := Aside0.mk A20
  clear A20
  by_cases c3 : t184 < 0
  · rw [if_pos c3] at H
    have c3b0 : decide (t184 < 0) = true := decide_eq_true c3
    clear c3
    simp only [Option.some.injEq, Prod.mk.injEq] at H
    obtain ⟨rfl, rfl, rfl⟩ := H
    go_enter Tryz.func36, Tryz.ntmps36
    go_wp2_with (first | (go_at_call 63; (with_reducible refine (broadsheetref18_line.calls k a0 t184 _ A2.out).mono ?_); rintro e w' ⟨rfl, ⟨nd, rfl⟩⟩; (try first | exact ⟨rfl, _, World.drewN_drewN _ _ _⟩ | exact ⟨rfl, _, Eq.trans (World.drewN_drewN _ _ _) (congrArg (World.drewN _) (Nat.add_assoc _ _ _))⟩)))
    repeat (go_quiet (first | (go_at_call 63; (with_reducible refine (broadsheetref18_line.calls k a0 t184 _ A2.out).mono ?_); rintro e w' ⟨rfl, ⟨nd, rfl⟩⟩; (try first | exact ⟨rfl, _, World.drewN_drewN _ _ _⟩ | exact ⟨rfl, _, Eq.trans (World.drewN_drewN _ _ _) (congrArg (World.drewN _) (Nat.add_assoc _ _ _))⟩))); try go_wp2_with (first | (go_at_call 63; (with_reducible refine (broadsheetref18_line.calls k a0 t184 _ A2.out).mono ?_); rintro e w' ⟨rfl, ⟨nd, rfl⟩⟩; (try first | exact ⟨rfl, _, World.drewN_drewN _ _ _⟩ | exact ⟨rfl, _, Eq.trans (World.drewN_drewN _ _ _) (congrArg (World.drewN _) (Nat.add_assoc _ _ _))⟩))))
    go_ret3
    exact ⟨by first | rfl | (simp; done) | (simp [*]; done), by repeat (first | exact Drawn0.refl _ | apply Drawn0.step)⟩
  · rw [if_neg c3] at H
    have c3b0 : decide (t184 < 0) = false := decide_eq_false c3
    clear c3
    by_cases c4 : 0 ≤ t184
    · rw [if_pos c4] at H
      have c4b0 := eq_true c4
      have c4b1 : decide (0 ≤ t184) = true := decide_eq_true c4
      clear c4
      by_cases c5 : t184 ≤ (a0.size : Int)
      · rw [if_pos c5] at H
        have c5b0 := eq_true c5
        have c5b1 : decide (t184 ≤ (a0.size : Int)) = true := decide_eq_true c5
        clear c5
        obtain ⟨ji6, hji6⟩ : ∃ j_ : Int, (wrap64 (t184 + 2)) = j_ := ⟨_, rfl⟩
        replace H : (if 0 ≤ (ji6) then (if (ji6) ≤ (a0.size : Int) then (some (a0.extract 0 (t184 : Int).toNat, a0.extract ((ji6) : Int).toNat a0.size, true)) else (none)) else (none)) = some (r1, r2, r3) := by first | (rw [hji6] at H; exact H) | (simp only [hji6] at H ⊢; exact H)
        (try rw [hji6] at A2)
        have hji6w : (IntKind.i64.wrap (t184 + 2)) = ji6 := (i64_w _).trans hji6
        by_cases c7 : 0 ≤ (ji6)
        · rw [if_pos c7] at H
          have c7b0 := eq_true c7
          have c7b1 : decide (0 ≤ (ji6)) = true := decide_eq_true c7
          clear c7
          by_cases c8 : (ji6) ≤ (a0.size : Int)
          · rw [if_pos c8] at H
            have c8b0 := eq_true c8
            have c8b1 : decide ((ji6) ≤ (a0.size : Int)) = true := decide_eq_true c8
            clear c8
            simp only [Option.some.injEq, Prod.mk.injEq] at H
            obtain ⟨rfl, rfl, rfl⟩ := H
            go_enter Tryz.func36, Tryz.ntmps36
            go_wp2_with (first | (go_at_call 63; (with_reducible refine (broadsheetref18_line.calls k a0 t184 _ A2.out).mono ?_); rintro e w' ⟨rfl, ⟨nd, rfl⟩⟩; (try first | exact ⟨rfl, _, World.drewN_drewN _ _ _⟩ | exact ⟨rfl, _, Eq.trans (World.drewN_drewN _ _ _) (congrArg (World.drewN _) (Nat.add_assoc _ _ _))⟩)))
            repeat (go_quiet (first | (go_at_call 63; (with_reducible refine (broadsheetref18_line.calls k a0 t184 _ A2.out).mono ?_); rintro e w' ⟨rfl, ⟨nd, rfl⟩⟩; (try first | exact ⟨rfl, _, World.drewN_drewN _ _ _⟩ | exact ⟨rfl, _, Eq.trans (World.drewN_drewN _ _ _) (congrArg (World.drewN _) (Nat.add_assoc _ _ _))⟩))); try go_wp2_with (first | (go_at_call 63; (with_reducible refine (broadsheetref18_line.calls k a0 t184 _ A2.out).mono ?_); rintro e w' ⟨rfl, ⟨nd, rfl⟩⟩; (try first | exact ⟨rfl, _, World.drewN_drewN _ _ _⟩ | exact ⟨rfl, _, Eq.trans (World.drewN_drewN _ _ _) (congrArg (World.drewN _) (Nat.add_assoc _ _ _))⟩))))
            go_ret3
            exact ⟨by first | rfl | (simp; done) | (simp only [← hji6] <;> (first | rfl | simp)) | (simp [*]; done), by repeat (first | exact Drawn0.refl _ | apply Drawn0.step)⟩
          · rw [if_neg c8] at H
            exact absurd H (by simp)
        · rw [if_neg c7] at H
          exact absurd H (by simp)
      · rw [if_neg c5] at H
        exact absurd H (by simp)
    · rw [if_neg c4] at H
      exact absurd H (by simp)

end Go.Proofs.YteonhdfjfjpbjaaGreatDoor.P

/- Px19 -/
namespace Go.Proofs.YteonhdfjfjpbjaaGreatDoor.P
open Go.Proofs.YteonhdfjfjpbjaaGreatDoor.B
open Go.RowKit Go.Proofs.YteonhdfjfjpbjaaGreatDoorW.PrintWords Go.Proofs.YteonhdfjfjpbjaaGreatDoorW.PrintLast Go.Proofs.YteonhdfjfjpbjaaGreatDoorW.PrintMore
attribute [local go_sem] str_leq str_gtr str_geq max2_int min2_int max_two min_two max_three min_three max_four min_four   -- for this text's walks alone
set_option linter.unusedVariables false
set_option linter.unusedSimpArgs false

/-! ### broadsheetref19_hex: function 64 -/
mutual
def broadsheetref19_hex.j0 : Nat → Int → Bool → Option (Int)
  | 0, _, _ => none
  | k + 1, x0, x3 => if x3 = true then (some (wrap64 ((wrap64 (x0)) - 48))) else (if x0 ≥ 65 then (broadsheetref19_hex.j1 k x0 (decide (x0 ≤ 70))) else (broadsheetref19_hex.j1 k x0 false))
def broadsheetref19_hex.j1 : Nat → Int → Bool → Option (Int)
  | 0, _, _ => none
  | k + 1, x0, x13 => if x13 = true then (some (wrap64 ((wrap64 (x0)) - 55))) else (if x0 ≥ 97 then (if x0 ≤ 102 then (some (wrap64 ((wrap64 (x0)) - 87))) else (some (-1))) else (some (-1)))
end
def broadsheetref19_hex.f (k : Nat) (a0 : Int) : Option (Int) := if a0 ≥ 48 then (broadsheetref19_hex.j0 k a0 (decide (a0 ≤ 57))) else (broadsheetref19_hex.j0 k a0 false)
theorem broadsheetref19_hex.mono_l : ∀ k, (∀ y0 y1, LeO (broadsheetref19_hex.j0 k y0 y1) (broadsheetref19_hex.j0 (k + 1) y0 y1)) ∧ (∀ y0 y1, LeO (broadsheetref19_hex.j1 k y0 y1) (broadsheetref19_hex.j1 (k + 1) y0 y1))
  | 0 => ⟨fun _ _ r h => by simp [broadsheetref19_hex.j0] at h, fun _ _ r h => by simp [broadsheetref19_hex.j1] at h⟩
  | k + 1 => by
    obtain ⟨ih0, ih1⟩ := broadsheetref19_hex.mono_l k
    refine ⟨?_, ?_⟩
    · intro y0 y1
      unfold broadsheetref19_hex.j0
      repeat' first
      | (with_reducible exact ih0 _ _)
      | (with_reducible exact ih1 _ _)
      | (with_reducible exact LeO.refl _)
      | (with_reducible exact LeO.none _)
      | (with_reducible refine LeO.ite ?_ ?_)
      | (with_reducible refine LeO.bind ?_ (fun _ => ?_))
      | exact ih0 _ _
      | exact ih1 _ _
      | exact LeO.none _
      | refine LeO.ite ?_ ?_
      | refine LeO.bind ?_ (fun _ => ?_)
    · intro y0 y1
      unfold broadsheetref19_hex.j1
      repeat' first
      | (with_reducible exact ih0 _ _)
      | (with_reducible exact ih1 _ _)
      | (with_reducible exact LeO.refl _)
      | (with_reducible exact LeO.none _)
      | (with_reducible refine LeO.ite ?_ ?_)
      | (with_reducible refine LeO.bind ?_ (fun _ => ?_))
      | exact ih0 _ _
      | exact ih1 _ _
      | exact LeO.none _
      | refine LeO.ite ?_ ?_
      | refine LeO.bind ?_ (fun _ => ?_)
theorem broadsheetref19_hex.mono : ∀ a0 k, LeO (broadsheetref19_hex.f k a0) (broadsheetref19_hex.f (k + 1) a0) := by
  intro a0 k
  obtain ⟨ih0, ih1⟩ := broadsheetref19_hex.mono_l k
  unfold broadsheetref19_hex.f
  repeat' first
      | (with_reducible exact ih0 _ _)
      | (with_reducible exact ih1 _ _)
      | (with_reducible exact LeO.refl _)
      | (with_reducible exact LeO.none _)
      | (with_reducible refine LeO.ite ?_ ?_)
      | (with_reducible refine LeO.bind ?_ (fun _ => ?_))
      | exact ih0 _ _
      | exact ih1 _ _
      | exact LeO.none _
      | refine LeO.ite ?_ ?_
      | refine LeO.bind ?_ (fun _ => ?_)
set_option maxHeartbeats 8000000 in
set_option maxRecDepth 100000 in
theorem broadsheetref19_hex.calls (k : Nat) (a0 : Int) (r : Int) (w : World) (h : broadsheetref19_hex.f k a0 = some r) :
    Calls Tryz.prog 64 #[.int .u8 a0] w fun e w' => e = .returned (.int .i64 r) ∧ Drawn0 w w' := by
  have H : (if a0 ≥ 48 then (broadsheetref19_hex.j0 k a0 (decide (a0 ≤ 57))) else (broadsheetref19_hex.j0 k a0 false)) = some r := h
  clear h
  have HC2 := Aside0.mk H
  clear H
  go_enter Tryz.func64, Tryz.ntmps64
  go_upto_region 1 with (fail)
  go_cut [3] (fun v3 wc => ∃ (kq : Nat) (x3_1 : Bool), v3 = .bool x3_1 ∧ Aside0 (broadsheetref19_hex.j0 kq a0 x3_1 = some r) ∧ Aside0 (kq ≤ k) ∧ Drawn0 w wc)
  case first =>
    have H := HC2.out
    clear HC2
    by_cases c3 : a0 ≥ 48
    · rw [if_pos c3] at H
      have c3b0 : decide (48 ≤ a0) = true := decide_eq_true c3
      clear c3
      (first | rw [c3b0] | (simp only [i64_w, i32_w]; rw [c3b0]) | skip)
      have H' := Aside0.mk H
      clear H
      go_wp2
      go_meet
      case rel => exact ⟨_, (decide (a0 ≤ 57)), (by first | rfl | (simp; done) | (simp [*]; done)), H', ⟨by first | omega | exact Nat.le_refl _⟩, by repeat (first | exact Drawn0.refl _ | apply Drawn0.step)⟩
    · rw [if_neg c3] at H
      have c3b0 : decide (48 ≤ a0) = false := decide_eq_false c3
      clear c3
      (first | rw [c3b0] | (simp only [i64_w, i32_w]; rw [c3b0]) | skip)
      have H' := Aside0.mk H
      clear H
      go_wp2
      go_meet
      case rel => exact ⟨_, (false), (by first | rfl | (simp; done) | (simp [*]; done)), H', ⟨by first | omega | exact Nat.le_refl _⟩, by repeat (first | exact Drawn0.refl _ | apply Drawn0.step)⟩
  case rest =>
    clear HC2
    try clear p2
    try clear c3
    try clear c3b0
    obtain ⟨kq, x3_1, rfl, HA, HJ1, ⟨mc1, rfl⟩⟩ := hcut
    cases kq with
    | zero => exact absurd HA.out (by simp [broadsheetref19_hex.j0])
    | succ kj1 =>
      have H := HA.out
      clear HA
      simp only [broadsheetref19_hex.j0] at H
      by_cases c4 : x3_1 = true
      · subst c4
        have H1 : (some (wrap64 ((wrap64 (a0)) - 48))) = some r := by rw [if_pos rfl] at H; exact H
        clear H
        have H := H1
        clear H1
        obtain rfl := Option.some.inj H
        go_wp2
        go_ret
        exact ⟨by first | rfl | (simp; done) | (simp [*]; done), by repeat (first | exact Drawn0.refl _ | apply Drawn0.step)⟩
      · replace c4 := Bool.eq_false_iff.mpr c4
        subst c4
        have H1 : (if a0 ≥ 65 then (broadsheetref19_hex.j1 kj1 a0 (decide (a0 ≤ 70))) else (broadsheetref19_hex.j1 kj1 a0 false)) = some r := by rw [if_neg (show ¬ (false = true) by decide)] at H; exact H
        clear H
        have H := H1
        clear H1
        have HC5 := Aside0.mk H
        clear H
        go_upto_region 3 with (fail)
        go_cut [13] (fun v13 wc => ∃ (kq : Nat) (x13_4 : Bool), v13 = .bool x13_4 ∧ Aside0 (broadsheetref19_hex.j1 kq a0 x13_4 = some r) ∧ Aside0 (kq ≤ kj1) ∧ Drawn0 w wc)
        case first =>
          have H := HC5.out
          clear HC5
          by_cases c6 : a0 ≥ 65
          · rw [if_pos c6] at H
            have c6b0 : decide (65 ≤ a0) = true := decide_eq_true c6
            clear c6
            (first | rw [c6b0] | (simp only [i64_w, i32_w]; rw [c6b0]) | skip)
            have H' := Aside0.mk H
            clear H
            go_wp2
            go_meet
            case rel => exact ⟨_, (decide (a0 ≤ 70)), (by first | rfl | (simp; done) | (simp [*]; done)), H', ⟨by have := HJ1.out; first | omega | exact Nat.le_refl _⟩, by repeat (first | exact Drawn0.refl _ | apply Drawn0.step)⟩
          · rw [if_neg c6] at H
            have c6b0 : decide (65 ≤ a0) = false := decide_eq_false c6
            clear c6
            (first | rw [c6b0] | (simp only [i64_w, i32_w]; rw [c6b0]) | skip)
            have H' := Aside0.mk H
            clear H
            go_wp2
            go_meet
            case rel => exact ⟨_, (false), (by first | rfl | (simp; done) | (simp [*]; done)), H', ⟨by have := HJ1.out; first | omega | exact Nat.le_refl _⟩, by repeat (first | exact Drawn0.refl _ | apply Drawn0.step)⟩
        case rest =>
          clear HC5
          try clear c1
          try clear p2
          try clear c3
          try clear c3b0
          try clear c4
          try clear c6
          try clear c6b0
          try clear p6
          try clear p2
          obtain ⟨kq, x13_4, rfl, HA, HJ4, ⟨mc4, rfl⟩⟩ := hcut
          cases kq with
          | zero => exact absurd HA.out (by simp [broadsheetref19_hex.j1])
          | succ kj4 =>
            have H := HA.out
            clear HA
            simp only [broadsheetref19_hex.j1] at H
            by_cases c7 : x13_4 = true
            · subst c7
              have H1 : (some (wrap64 ((wrap64 (a0)) - 55))) = some r := by rw [if_pos rfl] at H; exact H
              clear H
              have H := H1
              clear H1
              obtain rfl := Option.some.inj H
              go_wp2
              go_ret
              exact ⟨by first | rfl | (simp; done) | (simp [*]; done), by repeat (first | exact Drawn0.refl _ | apply Drawn0.step)⟩
            · replace c7 := Bool.eq_false_iff.mpr c7
              subst c7
              have H1 : (if a0 ≥ 97 then (if a0 ≤ 102 then (some (wrap64 ((wrap64 (a0)) - 87))) else (some (-1))) else (some (-1))) = some r := by rw [if_neg (show ¬ (false = true) by decide)] at H; exact H
              clear H
              have H := H1
              clear H1
              by_cases c8 : a0 ≥ 97
              · rw [if_pos c8] at H
                have c8b0 : decide (97 ≤ a0) = true := decide_eq_true c8
                clear c8
                by_cases c9 : a0 ≤ 102
                · rw [if_pos c9] at H
                  have c9b0 : decide (a0 ≤ 102) = true := decide_eq_true c9
                  clear c9
                  obtain rfl := Option.some.inj H
                  go_wp2
                  go_ret
                  exact ⟨by first | rfl | (simp; done) | (simp [*]; done), by repeat (first | exact Drawn0.refl _ | apply Drawn0.step)⟩
                · rw [if_neg c9] at H
                  have c9b0 : decide (a0 ≤ 102) = false := decide_eq_false c9
                  clear c9
                  obtain rfl := Option.some.inj H
                  go_wp2
                  go_ret
                  exact ⟨by first | rfl | (simp; done) | (simp [*]; done), by repeat (first | exact Drawn0.refl _ | apply Drawn0.step)⟩
              · rw [if_neg c8] at H
                have c8b0 : decide (97 ≤ a0) = false := decide_eq_false c8
                clear c8
                obtain rfl := Option.some.inj H
                go_wp2
                go_ret
                exact ⟨by first | rfl | (simp; done) | (simp [*]; done), by repeat (first | exact Drawn0.refl _ | apply Drawn0.step)⟩

end Go.Proofs.YteonhdfjfjpbjaaGreatDoor.P

/- Px20 -/
namespace Go.Proofs.YteonhdfjfjpbjaaGreatDoor.P
open Go.Proofs.YteonhdfjfjpbjaaGreatDoor.B
open Go.RowKit Go.Proofs.YteonhdfjfjpbjaaGreatDoorW.PrintWords Go.Proofs.YteonhdfjfjpbjaaGreatDoorW.PrintLast Go.Proofs.YteonhdfjfjpbjaaGreatDoorW.PrintMore
attribute [local go_sem] str_leq str_gtr str_geq max2_int min2_int max_two min_two max_three min_three max_four min_four   -- for this text's walks alone
set_option linter.unusedVariables false
set_option linter.unusedSimpArgs false

/-! ### broadsheetref19_size: function 37 -/
mutual
def broadsheetref19_size.l0 : Nat → ByteArray → Int → Int → Option (Int × ByteArray)
  | 0, _, _, _ => none
  | k + 1, x0, x4, x5 => if x5 < (x0.size : Int) then (if 0 ≤ x5 then ((broadsheetref19_hex.f k (bt x0 x5)).bind fun t185 => (broadsheetref19_size.j1 k x0 x4 x5 (decide (t185 ≥ 0)))) else (none)) else (broadsheetref19_size.j1 k x0 x4 x5 false)
def broadsheetref19_size.j1 : Nat → ByteArray → Int → Int → Bool → Option (Int × ByteArray)
  | 0, _, _, _, _ => none
  | k + 1, x0, x4, x5, x16 => if x16 = true then (if x5 = 8 then (some ((-1), (⟨#[]⟩ : ByteArray))) else (if 0 ≤ x5 then (if x5 < (x0.size : Int) then ((broadsheetref19_hex.f k (bt x0 x5)).bind fun t186 => (broadsheetref19_size.l0 k x0 (wrap64 ((wrap64 (x4 * 16)) + t186)) (wrap64 (x5 + 1)))) else (none)) else (none))) else (if x5 = 0 then (some ((-1), (⟨#[]⟩ : ByteArray))) else (if 0 ≤ x5 then (if x5 ≤ (x0.size : Int) then (some (x4, x0.extract (x5 : Int).toNat x0.size)) else (none)) else (none)))
end
def broadsheetref19_size.f (k : Nat) (a0 : ByteArray) : Option (Int × ByteArray) := broadsheetref19_size.l0 k a0 0 0
theorem broadsheetref19_size.mono_l : ∀ k, (∀ y0 y1 y2, LeO (broadsheetref19_size.l0 k y0 y1 y2) (broadsheetref19_size.l0 (k + 1) y0 y1 y2)) ∧ (∀ y0 y1 y2 y3, LeO (broadsheetref19_size.j1 k y0 y1 y2 y3) (broadsheetref19_size.j1 (k + 1) y0 y1 y2 y3))
  | 0 => ⟨fun _ _ _ r h => by simp [broadsheetref19_size.l0] at h, fun _ _ _ _ r h => by simp [broadsheetref19_size.j1] at h⟩
  | k + 1 => by
    obtain ⟨ih0, ih1⟩ := broadsheetref19_size.mono_l k
    refine ⟨?_, ?_⟩
    · intro y0 y1 y2
      unfold broadsheetref19_size.l0
      repeat' first
      | (with_reducible exact ih0 _ _ _)
      | (with_reducible exact ih1 _ _ _ _)
      | (with_reducible exact broadsheetref19_hex.mono _ _)
      | (with_reducible exact LeO.refl _)
      | (with_reducible exact LeO.none _)
      | (with_reducible refine LeO.ite ?_ ?_)
      | (with_reducible refine LeO.bind ?_ (fun _ => ?_))
      | exact ih0 _ _ _
      | exact ih1 _ _ _ _
      | exact broadsheetref19_hex.mono _ _
      | exact LeO.none _
      | refine LeO.ite ?_ ?_
      | refine LeO.bind ?_ (fun _ => ?_)
    · intro y0 y1 y2 y3
      unfold broadsheetref19_size.j1
      repeat' first
      | (with_reducible exact ih0 _ _ _)
      | (with_reducible exact ih1 _ _ _ _)
      | (with_reducible exact broadsheetref19_hex.mono _ _)
      | (with_reducible exact LeO.refl _)
      | (with_reducible exact LeO.none _)
      | (with_reducible refine LeO.ite ?_ ?_)
      | (with_reducible refine LeO.bind ?_ (fun _ => ?_))
      | exact ih0 _ _ _
      | exact ih1 _ _ _ _
      | exact broadsheetref19_hex.mono _ _
      | exact LeO.none _
      | refine LeO.ite ?_ ?_
      | refine LeO.bind ?_ (fun _ => ?_)
theorem broadsheetref19_size.mono : ∀ a0 k, LeO (broadsheetref19_size.f k a0) (broadsheetref19_size.f (k + 1) a0) := by
  intro a0 k
  obtain ⟨ih0, ih1⟩ := broadsheetref19_size.mono_l k
  unfold broadsheetref19_size.f
  repeat' first
      | (with_reducible exact ih0 _ _ _)
      | (with_reducible exact ih1 _ _ _ _)
      | (with_reducible exact broadsheetref19_hex.mono _ _)
      | (with_reducible exact LeO.refl _)
      | (with_reducible exact LeO.none _)
      | (with_reducible refine LeO.ite ?_ ?_)
      | (with_reducible refine LeO.bind ?_ (fun _ => ?_))
      | exact ih0 _ _ _
      | exact ih1 _ _ _ _
      | exact broadsheetref19_hex.mono _ _
      | exact LeO.none _
      | refine LeO.ite ?_ ?_
      | refine LeO.bind ?_ (fun _ => ?_)
set_option maxHeartbeats 8000000 in
set_option maxRecDepth 100000 in
theorem broadsheetref19_size.calls (k : Nat) (a0 : ByteArray) (r1 : Int) (r2 : ByteArray) (w : World) (h : broadsheetref19_size.f k a0 = some (r1, r2)) :
    Calls Tryz.prog 37 #[.string a0] w fun e w' => e = .returned (.tuple #[.int .i64 r1, .string r2]) ∧ Drawn0 w w' := by
  have H : (broadsheetref19_size.l0 k a0 0 0) = some (r1, r2) := h
  clear h
  have H' := Aside0.mk H
  clear H
  go_enter Tryz.func37, Tryz.ntmps37
  go_wp2
  repeat (go_quiet (fail); try go_wp2)
  first | go_loopg [4, 5] k (fun kq v4 v5 w' => ∃ (x4_1 : Int) (x5_1 : Int), v4 = .int .i64 x4_1 ∧ v5 = .int .i64 x5_1 ∧ Aside0 (broadsheetref19_size.l0 kq a0 x4_1 x5_1 = some (r1, r2)) ∧ Aside0 (kq ≤ k) ∧ Drawn0 w w') | (go_simp; go_loopg [4, 5] k (fun kq v4 v5 w' => ∃ (x4_1 : Int) (x5_1 : Int), v4 = .int .i64 x4_1 ∧ v5 = .int .i64 x5_1 ∧ Aside0 (broadsheetref19_size.l0 kq a0 x4_1 x5_1 = some (r1, r2)) ∧ Aside0 (kq ≤ k) ∧ Drawn0 w w'))
  case atStart => exact ⟨(0), (0), (by first | rfl | (simp; done) | (simp [*]; done)), (by first | rfl | (simp; done) | (simp [*]; done)), H', ⟨Nat.le_refl _⟩, by repeat (first | exact Drawn0.refl _ | apply Drawn0.step)⟩
  case round =>
    clear H'
    obtain ⟨x4_1, x5_1, rfl, rfl, HA, HK1, ⟨m1, rfl⟩⟩ := hrel
    cases gk with
    | zero => exact absurd HA.out (by simp [broadsheetref19_size.l0])
    | succ k1 =>
      have H := HA.out
      clear HA
      simp only [broadsheetref19_size.l0] at H
      have HC2 := Aside0.mk H
      clear H
      go_upto_region 2 with (fail)
      repeat (go_quiet (fail); go_upto_region 2 with (fail))
      go_cut [16] (fun v16 wc => ∃ (kq : Nat) (x16_1 : Bool), v16 = .bool x16_1 ∧ Aside0 (broadsheetref19_size.j1 kq a0 x4_1 x5_1 x16_1 = some (r1, r2)) ∧ Aside0 (kq ≤ k1) ∧ Drawn0 w wc)
      case first =>
        have H := HC2.out
        clear HC2
        by_cases c3 : x5_1 < (a0.size : Int)
        · rw [if_pos c3] at H
          have c3b0 : decide (x5_1 < (a0.size : Int)) = true := decide_eq_true c3
          clear c3
          (first | rw [c3b0] | (simp only [i64_w, i32_w]; rw [c3b0]) | skip)
          by_cases c4 : 0 ≤ x5_1
          · rw [if_pos c4] at H
            have c4b0 : decide (0 ≤ x5_1) = true := decide_eq_true c4
            clear c4
            replace H := Option.bind_eq_some_iff.mp H
            obtain ⟨t185, A60, H⟩ := H
            replace H : (broadsheetref19_size.j1 k1 a0 x4_1 x5_1 (decide (t185 ≥ 0))) = some (r1, r2) := H
            have A6 := Aside0.mk A60
            clear A60
            have H' := Aside0.mk H
            clear H
            have p5 : 0 ≤ (x5_1 : Int) := of_decide_eq_true (by first | (with_reducible assumption) | assumption)
            have q5 : x5_1 < (a0.size : Int) := of_decide_eq_true (by first | (with_reducible assumption) | assumption)
            have hx5 := bt_at a0 x5_1
            replace p5 := eq_true p5
            replace q5 := eq_true q5
            go_wp2_with (first | (go_at_call 64; (with_reducible refine (broadsheetref19_hex.calls k1 (bt a0 x5_1) t185 _ A6.out).mono ?_); rintro e w' ⟨rfl, ⟨nd, rfl⟩⟩; (try first | exact ⟨rfl, _, World.drewN_drewN _ _ _⟩ | exact ⟨rfl, _, Eq.trans (World.drewN_drewN _ _ _) (congrArg (World.drewN _) (Nat.add_assoc _ _ _))⟩)))
            repeat (go_quiet (first | (go_at_call 64; (with_reducible refine (broadsheetref19_hex.calls k1 (bt a0 x5_1) t185 _ A6.out).mono ?_); rintro e w' ⟨rfl, ⟨nd, rfl⟩⟩; (try first | exact ⟨rfl, _, World.drewN_drewN _ _ _⟩ | exact ⟨rfl, _, Eq.trans (World.drewN_drewN _ _ _) (congrArg (World.drewN _) (Nat.add_assoc _ _ _))⟩))); try go_wp2_with (first | (go_at_call 64; (with_reducible refine (broadsheetref19_hex.calls k1 (bt a0 x5_1) t185 _ A6.out).mono ?_); rintro e w' ⟨rfl, ⟨nd, rfl⟩⟩; (try first | exact ⟨rfl, _, World.drewN_drewN _ _ _⟩ | exact ⟨rfl, _, Eq.trans (World.drewN_drewN _ _ _) (congrArg (World.drewN _) (Nat.add_assoc _ _ _))⟩))))
            go_meet
            case rel => exact ⟨_, (decide (t185 ≥ 0)), (by first | rfl | (simp; done) | (simp [*]; done)), H', ⟨by have := HK1.out; first | omega | exact Nat.le_refl _⟩, by repeat (first | exact Drawn0.refl _ | apply Drawn0.step)⟩
          · rw [if_neg c4] at H
            exact absurd H (by simp)
        · rw [if_neg c3] at H
          have c3b0 : decide (x5_1 < (a0.size : Int)) = false := decide_eq_false c3
          clear c3
          (first | rw [c3b0] | (simp only [i64_w, i32_w]; rw [c3b0]) | skip)
          have H' := Aside0.mk H
          clear H
          go_wp2
          repeat (go_quiet (fail); try go_wp2)
          go_meet
          case rel => exact ⟨_, (false), (by first | rfl | (simp; done) | (simp [*]; done)), H', ⟨by have := HK1.out; first | omega | exact Nat.le_refl _⟩, by repeat (first | exact Drawn0.refl _ | apply Drawn0.step)⟩
      case rest =>
        clear HC2
        try clear p2
        try clear c3
        try clear c3b0
        try clear c4
        try clear c4b0
        try clear p5
        try clear q5
        try clear hx5
        try clear p5
        try clear q5
        obtain ⟨kq, x16_1, rfl, HA, HJ1, ⟨mc1, rfl⟩⟩ := hcut
        cases kq with
        | zero => exact absurd HA.out (by simp [broadsheetref19_size.j1])
        | succ kj1 =>
          have H := HA.out
          clear HA
          simp only [broadsheetref19_size.j1] at H
          by_cases c7 : x16_1 = true
          · subst c7
            have H1 : (if x5_1 = 8 then (some ((-1), (⟨#[]⟩ : ByteArray))) else (if 0 ≤ x5_1 then (if x5_1 < (a0.size : Int) then ((broadsheetref19_hex.f kj1 (bt a0 x5_1)).bind fun t186 => (broadsheetref19_size.l0 kj1 a0 (wrap64 ((wrap64 (x4_1 * 16)) + t186)) (wrap64 (x5_1 + 1)))) else (none)) else (none))) = some (r1, r2) := by rw [if_pos rfl] at H; exact H
            clear H
            have H := H1
            clear H1
            by_cases c8 : x5_1 = 8
            · rw [if_pos c8] at H
              have c8b0 : (x5_1 == 8) = true := beq_iff_eq.mpr c8
              have c8b1 : (x5_1 != 8) = false := bne_eq_false_iff_eq.mpr c8
              clear c8
              simp only [Option.some.injEq, Prod.mk.injEq] at H
              obtain ⟨rfl, rfl⟩ := H
              go_wp2
              repeat (go_quiet (fail); try go_wp2)
              go_ret2
              exact ⟨by first | rfl | (simp; done) | (simp [*]; done), by repeat (first | exact Drawn0.refl _ | apply Drawn0.step)⟩
            · rw [if_neg c8] at H
              have c8b0 : (x5_1 == 8) = false := beq_eq_false_iff_ne.mpr c8
              have c8b1 : (x5_1 != 8) = true := bne_iff_ne.mpr c8
              by_cases c9 : 0 ≤ x5_1
              · rw [if_pos c9] at H
                have c9b0 : decide (0 ≤ x5_1) = true := decide_eq_true c9
                clear c9
                by_cases c10 : x5_1 < (a0.size : Int)
                · rw [if_pos c10] at H
                  have c10b0 : decide (x5_1 < (a0.size : Int)) = true := decide_eq_true c10
                  clear c10
                  replace H := Option.bind_eq_some_iff.mp H
                  obtain ⟨t186, A120, H⟩ := H
                  replace H : (broadsheetref19_size.l0 kj1 a0 (wrap64 ((wrap64 (x4_1 * 16)) + t186)) (wrap64 (x5_1 + 1))) = some (r1, r2) := H
                  have A12 := Aside0.mk A120
                  clear A120
                  have H' := Aside0.mk H
                  clear H
                  have p11 : 0 ≤ (x5_1 : Int) := of_decide_eq_true (by first | (with_reducible assumption) | assumption)
                  have q11 : x5_1 < (a0.size : Int) := of_decide_eq_true (by first | (with_reducible assumption) | assumption)
                  have hx11 := bt_at a0 x5_1
                  replace p11 := eq_true p11
                  replace q11 := eq_true q11
                  go_wp2_with (first | (go_at_call 64; (with_reducible refine (broadsheetref19_hex.calls kj1 (bt a0 x5_1) t186 _ A12.out).mono ?_); rintro e w' ⟨rfl, ⟨nd, rfl⟩⟩; (try first | exact ⟨rfl, _, World.drewN_drewN _ _ _⟩ | exact ⟨rfl, _, Eq.trans (World.drewN_drewN _ _ _) (congrArg (World.drewN _) (Nat.add_assoc _ _ _))⟩)))
                  repeat (go_quiet (first | (go_at_call 64; (with_reducible refine (broadsheetref19_hex.calls kj1 (bt a0 x5_1) t186 _ A12.out).mono ?_); rintro e w' ⟨rfl, ⟨nd, rfl⟩⟩; (try first | exact ⟨rfl, _, World.drewN_drewN _ _ _⟩ | exact ⟨rfl, _, Eq.trans (World.drewN_drewN _ _ _) (congrArg (World.drewN _) (Nat.add_assoc _ _ _))⟩))); try go_wp2_with (first | (go_at_call 64; (with_reducible refine (broadsheetref19_hex.calls kj1 (bt a0 x5_1) t186 _ A12.out).mono ?_); rintro e w' ⟨rfl, ⟨nd, rfl⟩⟩; (try first | exact ⟨rfl, _, World.drewN_drewN _ _ _⟩ | exact ⟨rfl, _, Eq.trans (World.drewN_drewN _ _ _) (congrArg (World.drewN _) (Nat.add_assoc _ _ _))⟩))))
                  go_roundg kj1
                  case measure => have := HK1.out; have := HJ1.out; omega
                  case rel => exact ⟨(wrap64 ((wrap64 (x4_1 * 16)) + t186)), (wrap64 (x5_1 + 1)), (by first | rfl | (simp; done) | (simp [*]; done)), (by first | rfl | (simp; done) | (simp [*]; done)), H', ⟨by have := HK1.out; have := HJ1.out; omega⟩, by repeat (first | exact Drawn0.refl _ | apply Drawn0.step)⟩
                · rw [if_neg c10] at H
                  exact absurd H (by simp)
              · rw [if_neg c9] at H
                exact absurd H (by simp)
          · replace c7 := Bool.eq_false_iff.mpr c7
            subst c7
            have H1 : (if x5_1 = 0 then (some ((-1), (⟨#[]⟩ : ByteArray))) else (if 0 ≤ x5_1 then (if x5_1 ≤ (a0.size : Int) then (some (x4_1, a0.extract (x5_1 : Int).toNat a0.size)) else (none)) else (none))) = some (r1, r2) := by rw [if_neg (show ¬ (false = true) by decide)] at H; exact H
            clear H
            have H := H1
            clear H1
            by_cases c13 : x5_1 = 0
            · rw [if_pos c13] at H
              have c13b0 : (x5_1 == 0) = true := beq_iff_eq.mpr c13
              have c13b1 : (x5_1 != 0) = false := bne_eq_false_iff_eq.mpr c13
              clear c13
              simp only [Option.some.injEq, Prod.mk.injEq] at H
              obtain ⟨rfl, rfl⟩ := H
              go_wp2
              repeat (go_quiet (fail); try go_wp2)
              go_ret2
              exact ⟨by first | rfl | (simp; done) | (simp [*]; done), by repeat (first | exact Drawn0.refl _ | apply Drawn0.step)⟩
            · rw [if_neg c13] at H
              have c13b0 : (x5_1 == 0) = false := beq_eq_false_iff_ne.mpr c13
              have c13b1 : (x5_1 != 0) = true := bne_iff_ne.mpr c13
              by_cases c14 : 0 ≤ x5_1
              · rw [if_pos c14] at H
                have c14b0 := eq_true c14
                have c14b1 : decide (0 ≤ x5_1) = true := decide_eq_true c14
                clear c14
                by_cases c15 : x5_1 ≤ (a0.size : Int)
                · rw [if_pos c15] at H
                  have c15b0 := eq_true c15
                  have c15b1 : decide (x5_1 ≤ (a0.size : Int)) = true := decide_eq_true c15
                  clear c15
                  simp only [Option.some.injEq, Prod.mk.injEq] at H
                  obtain ⟨rfl, rfl⟩ := H
                  go_wp2
                  repeat (go_quiet (fail); try go_wp2)
                  go_ret2
                  exact ⟨by first | rfl | (simp; done) | (simp [*]; done), by repeat (first | exact Drawn0.refl _ | apply Drawn0.step)⟩
                · rw [if_neg c15] at H
                  exact absurd H (by simp)
              · rw [if_neg c14] at H
                exact absurd H (by simp)

end Go.Proofs.YteonhdfjfjpbjaaGreatDoor.P
