/- Texts of this seat, joined: lemmas and walks that its statements' proofs use. -/
import Derived.Test.YteonhdfjfjpbjaaGreatDoorK1
import Derived.Test.YteonhdfjfjpbjaaGreatDoorK2
import Derived.Test.YteonhdfjfjpbjaaGreatDoorK3
import Derived.Test.YteonhdfjfjpbjaaGreatDoorK4
/- Px33 -/
namespace Go.Proofs.YteonhdfjfjpbjaaGreatDoor.P
open Go.Proofs.YteonhdfjfjpbjaaGreatDoor.B
open Go.RowKit Go.Proofs.YteonhdfjfjpbjaaGreatDoorW.PrintWords Go.Proofs.YteonhdfjfjpbjaaGreatDoorW.PrintLast Go.Proofs.YteonhdfjfjpbjaaGreatDoorW.PrintMore
attribute [local go_sem] str_leq str_gtr str_geq max2_int min2_int max_two min_two max_three min_three max_four min_four   -- for this text's walks alone
set_option linter.unusedVariables false
set_option linter.unusedSimpArgs false

open Go.Proofs.YteonhdfjfjpbjaaGreatDoor.O
/-! ### broadsheetlaw19_ChunkLong: function 3 -/
mutual
def broadsheetlaw19_ChunkLong.l0 : Nat → Int → List Int → Int → Option (Bool)
  | 0, _, _, _ => none
  | k + 1, x1, x5, x6 => if x6 < (x5.length : Int) then (if 0 ≤ x6 then (broadsheetlaw19_ChunkLong.l0 k x1 (x5.set (x6 : Int).toNat 65) (wrap64 (x6 + 1))) else (none)) else ((chunk_Encode.f k (strOfNums x5) (wrap64 (50000 + (Int.tmod (wrap64 (x1)) 40000)))).bind fun bt265 => ((broadsheetref19_Encode.f k (strOfNums x5) (wrap64 (50000 + (Int.tmod (wrap64 (x1)) 40000)))).bind fun bt267 => (if bt265.1.toList = bt267.1.toList then (broadsheetlaw19_ChunkLong.j1 k (strOfNums x5) (wrap64 (50000 + (Int.tmod (wrap64 (x1)) 40000))) (bt265.2 != bt267.2)) else (broadsheetlaw19_ChunkLong.j1 k (strOfNums x5) (wrap64 (50000 + (Int.tmod (wrap64 (x1)) 40000))) true))))
def broadsheetlaw19_ChunkLong.j1 : Nat → ByteArray → Int → Bool → Option (Bool)
  | 0, _, _, _ => none
  | k + 1, x7, x8, x63 => if x63 = true then (some false) else (if 0 ≤ x8 then (if x8 ≤ (x7.size : Int) then ((chunk_Encode.f k (x7.extract 0 (x8 : Int).toNat) x8).bind fun bt269 => ((chunk_Encode.f k (x7.extract (x8 : Int).toNat x7.size) 99990).bind fun bt271 => (if (bt269.1.size : Int) < 5 then (some false) else (if 0 ≤ (wrap64 ((bt269.1.size : Int) - 5)) then (if (wrap64 ((bt269.1.size : Int) - 5)) ≤ (bt269.1.size : Int) then (if (bt269.1.extract 0 ((wrap64 ((bt269.1.size : Int) - 5)) : Int).toNat).size + bt271.1.size ≤ 9223372036854775807 then ((chunk_Decode.f k ((bt269.1.extract 0 ((wrap64 ((bt269.1.size : Int) - 5)) : Int).toNat) ++ bt271.1)).bind fun bt273 => ((broadsheetref19_Decode.f k ((bt269.1.extract 0 ((wrap64 ((bt269.1.size : Int) - 5)) : Int).toNat) ++ bt271.1)).bind fun bt276 => ((broadsheetlaw19_awake.f k).bind fun t279 => (if t279 = true then (if bt273.1.toList = bt276.1.toList then (if bt273.2.1.toList = bt276.2.1.toList then (some (bt273.2.2 == bt276.2.2)) else (some false)) else (some false)) else (some false))))) else (none)) else (none)) else (none))))) else (none)) else (none))
end
def broadsheetlaw19_ChunkLong.f (k : Nat) (a0 : Int) (a1 : Int) : Option (Bool) := if 0 ≤ (wrap64 (99990 + (Int.tmod (wrap64 (a0)) 21))) then (if (wrap64 (99990 + (Int.tmod (wrap64 (a0)) 21)) : Int).toNat ≤ 281474976710656 then (broadsheetlaw19_ChunkLong.l0 k a1 (List.replicate (wrap64 (99990 + (Int.tmod (wrap64 (a0)) 21)) : Int).toNat 0) 0) else (none)) else (none)
theorem broadsheetlaw19_ChunkLong.mono_l : ∀ k, (∀ y0 y1 y2, LeO (broadsheetlaw19_ChunkLong.l0 k y0 y1 y2) (broadsheetlaw19_ChunkLong.l0 (k + 1) y0 y1 y2)) ∧ (∀ y0 y1 y2, LeO (broadsheetlaw19_ChunkLong.j1 k y0 y1 y2) (broadsheetlaw19_ChunkLong.j1 (k + 1) y0 y1 y2))
  | 0 => ⟨fun _ _ _ r h => by simp [broadsheetlaw19_ChunkLong.l0] at h, fun _ _ _ r h => by simp [broadsheetlaw19_ChunkLong.j1] at h⟩
  | k + 1 => by
    obtain ⟨ih0, ih1⟩ := broadsheetlaw19_ChunkLong.mono_l k
    refine ⟨?_, ?_⟩
    · intro y0 y1 y2
      unfold broadsheetlaw19_ChunkLong.l0
      repeat' first
      | (with_reducible exact ih0 _ _ _)
      | (with_reducible exact ih1 _ _ _)
      | (with_reducible exact broadsheetlaw19_awake.mono _)
      | (with_reducible exact broadsheetref19_Decode.mono _ _)
      | (with_reducible exact broadsheetref19_Encode.mono _ _ _)
      | (with_reducible exact chunk_Decode.mono _ _)
      | (with_reducible exact chunk_Encode.mono _ _ _)
      | (with_reducible exact LeO.refl _)
      | (with_reducible exact LeO.none _)
      | (with_reducible refine LeO.ite ?_ ?_)
      | (with_reducible refine LeO.bind ?_ (fun _ => ?_))
      | exact ih0 _ _ _
      | exact ih1 _ _ _
      | exact broadsheetlaw19_awake.mono _
      | exact broadsheetref19_Decode.mono _ _
      | exact broadsheetref19_Encode.mono _ _ _
      | exact chunk_Decode.mono _ _
      | exact chunk_Encode.mono _ _ _
      | exact LeO.none _
      | refine LeO.ite ?_ ?_
      | refine LeO.bind ?_ (fun _ => ?_)
    · intro y0 y1 y2
      unfold broadsheetlaw19_ChunkLong.j1
      repeat' first
      | (with_reducible exact ih0 _ _ _)
      | (with_reducible exact ih1 _ _ _)
      | (with_reducible exact broadsheetlaw19_awake.mono _)
      | (with_reducible exact broadsheetref19_Decode.mono _ _)
      | (with_reducible exact broadsheetref19_Encode.mono _ _ _)
      | (with_reducible exact chunk_Decode.mono _ _)
      | (with_reducible exact chunk_Encode.mono _ _ _)
      | (with_reducible exact LeO.refl _)
      | (with_reducible exact LeO.none _)
      | (with_reducible refine LeO.ite ?_ ?_)
      | (with_reducible refine LeO.bind ?_ (fun _ => ?_))
      | exact ih0 _ _ _
      | exact ih1 _ _ _
      | exact broadsheetlaw19_awake.mono _
      | exact broadsheetref19_Decode.mono _ _
      | exact broadsheetref19_Encode.mono _ _ _
      | exact chunk_Decode.mono _ _
      | exact chunk_Encode.mono _ _ _
      | exact LeO.none _
      | refine LeO.ite ?_ ?_
      | refine LeO.bind ?_ (fun _ => ?_)
theorem broadsheetlaw19_ChunkLong.mono : ∀ a0 a1 k, LeO (broadsheetlaw19_ChunkLong.f k a0 a1) (broadsheetlaw19_ChunkLong.f (k + 1) a0 a1) := by
  intro a0 a1 k
  obtain ⟨ih0, ih1⟩ := broadsheetlaw19_ChunkLong.mono_l k
  unfold broadsheetlaw19_ChunkLong.f
  repeat' first
      | (with_reducible exact ih0 _ _ _)
      | (with_reducible exact ih1 _ _ _)
      | (with_reducible exact broadsheetlaw19_awake.mono _)
      | (with_reducible exact broadsheetref19_Decode.mono _ _)
      | (with_reducible exact broadsheetref19_Encode.mono _ _ _)
      | (with_reducible exact chunk_Decode.mono _ _)
      | (with_reducible exact chunk_Encode.mono _ _ _)
      | (with_reducible exact LeO.refl _)
      | (with_reducible exact LeO.none _)
      | (with_reducible refine LeO.ite ?_ ?_)
      | (with_reducible refine LeO.bind ?_ (fun _ => ?_))
      | exact ih0 _ _ _
      | exact ih1 _ _ _
      | exact broadsheetlaw19_awake.mono _
      | exact broadsheetref19_Decode.mono _ _
      | exact broadsheetref19_Encode.mono _ _ _
      | exact chunk_Decode.mono _ _
      | exact chunk_Encode.mono _ _ _
      | exact LeO.none _
      | refine LeO.ite ?_ ?_
      | refine LeO.bind ?_ (fun _ => ?_)
set_option maxHeartbeats 8000000 in
set_option maxRecDepth 100000 in
theorem broadsheetlaw19_ChunkLong.calls (k : Nat) (a0 : Int) (a1 : Int) (r : Bool) (w : World) (hG : Glob w) (h : broadsheetlaw19_ChunkLong.f k a0 a1 = some r) :
    Calls Tryz.prog 3 #[.int .u8 a0, .int .u16 a1] w fun e w' => e = .returned (.bool r) ∧ Below w.heap.size w w' := by
  have HB := Aside0.mk (Below.refl w.heap.size w)
  have hGA := Aside0.mk hG
  clear hG
  have H : (if 0 ≤ (wrap64 (99990 + (Int.tmod (wrap64 (a0)) 21))) then (if (wrap64 (99990 + (Int.tmod (wrap64 (a0)) 21)) : Int).toNat ≤ 281474976710656 then (broadsheetlaw19_ChunkLong.l0 k a1 (List.replicate (wrap64 (99990 + (Int.tmod (wrap64 (a0)) 21)) : Int).toNat 0) 0) else (none)) else (none)) = some r := h
  clear h
  obtain ⟨ji3, hji3⟩ : ∃ j_ : Int, (wrap64 (99990 + (Int.tmod (wrap64 (a0)) 21))) = j_ := ⟨_, rfl⟩
  replace H : (if 0 ≤ (ji3) then (if (ji3 : Int).toNat ≤ 281474976710656 then (broadsheetlaw19_ChunkLong.l0 k a1 (List.replicate (ji3 : Int).toNat 0) 0) else (none)) else (none)) = some r := by first | (rw [hji3] at H; exact H) | (simp only [hji3] at H ⊢; exact H)
  have hji3w : (IntKind.i64.wrap (99990 + (Int.tmod (wrap64 (a0)) 21))) = ji3 := (i64_w _).trans hji3
  by_cases c4 : 0 ≤ (ji3)
  · rw [if_pos c4] at H
    have c4b0 := eq_true c4
    have c4b1 : decide (0 ≤ (ji3)) = true := decide_eq_true c4
    clear c4
    by_cases c5 : (ji3 : Int).toNat ≤ 281474976710656
    · rw [if_pos c5] at H
      have c5b0 := eq_true c5
      have c5b1 : decide ((ji3 : Int).toNat ≤ 281474976710656) = true := decide_eq_true c5
      clear c5
      obtain ⟨y261, hy261⟩ : ∃ y_ : List Int, y_ = (List.replicate (ji3 : Int).toNat 0) := ⟨_, rfl⟩
      replace H : (broadsheetlaw19_ChunkLong.l0 k a1 y261 0) = some r := by first | (rw [hy261]; with_reducible exact H) | (have H2_ := (Option.bind_some _ _).symm.trans H; rw [hy261]; with_reducible exact H2_) | (have H2_ := (Option.bind_some _ _).symm.trans H; with_reducible exact H2_) | with_reducible exact H | (rw [hy261]; exact H) | exact H
      have Ny261 := Aside0.mk hy261
      clear hy261
      have H' := Aside0.mk H
      clear H
      go_enter Tryz.func3, Tryz.ntmps3
      go_wp2_with (first | ((with_reducible refine gate_dst (N := 28) rfl ?_); refine Kd.R_make (Kd.int .u8) _ 5 rfl (N := 28) rfl 23 _ _ rfl ji3 rfl rfl Tryz.underlying23 (.int .u8 0) 1 info5 rfl (by decide) (by omega) 0 (ok := fun _ => True) (okp := fun _ => True) rfl (fun _ hk => hk) trivial (of_decide_eq_true (by first | (with_reducible assumption) | assumption)) (Nat.le_trans (Nat.mul_le_mul_right _ (of_decide_eq_true (by first | (with_reducible assumption) | assumption) : ji3.toNat ≤ 281474976710656)) (by omega)) (Below.refl _ _) (Nat.le_refl _) ?_; intro v262 w6 ho7 hb hg_ hnew_; clear hg_ hnew_; (first | rw [← Ny261.out] at ho7 | (simp only [Int.reduceToNat] at ho7; rw [← Ny261.out] at ho7)); have n0_ := Aside0.mk (Kd.R_lower ho7 (below_size (by repeat (first | (with_reducible first | exact HB.out | apply below_alloc | apply pw_below_drewN | apply below_drew1) | exact HB.out)))); have n1_ := Aside0.mk (below_step (by repeat (first | (with_reducible first | exact HB.out | apply below_alloc | apply pw_below_drewN | apply below_drew1) | exact HB.out)) hb); clear HB; have HO263 := n0_; have HB := n1_; clear n0_ n1_; clear hb ho7))
      first | go_loopg [6] k (fun kq v6 w' => ∃ (x5_1 : List Int) (x6_1 : Int), v6 = .int .i64 x6_1 ∧ Aside0 (broadsheetlaw19_ChunkLong.l0 kq a1 x5_1 x6_1 = some r) ∧ Aside0 (kq ≤ k) ∧ Aside0 (Kd.R (Kd.int .u8) 5 w' w.heap.size (fun _ => True) v262 x5_1) ∧ Aside0 (Below w.heap.size w w')) | (go_simp; go_loopg [6] k (fun kq v6 w' => ∃ (x5_1 : List Int) (x6_1 : Int), v6 = .int .i64 x6_1 ∧ Aside0 (broadsheetlaw19_ChunkLong.l0 kq a1 x5_1 x6_1 = some r) ∧ Aside0 (kq ≤ k) ∧ Aside0 (Kd.R (Kd.int .u8) 5 w' w.heap.size (fun _ => True) v262 x5_1) ∧ Aside0 (Below w.heap.size w w')))
      case atStart => exact ⟨(y261), (0), (by first | rfl | (simp; done) | (simp [*]; done)), H', ⟨Nat.le_refl _⟩, ⟨by (with_reducible repeat (first | apply Kd.R_alloc | apply Kd.R_drewN | apply Kd.R_drew)); exact HO263.out⟩, ⟨by repeat (first | (with_reducible first | exact HB.out | apply below_alloc | apply pw_below_drewN | apply below_drew1) | exact HB.out)⟩⟩
      case round =>
        clear H'
        try clear p2
        try clear c3
        try clear c4
        try clear c4b0
        try clear c4b1
        try clear c5
        try clear c5b0
        try clear c5b1
        try clear p6
        obtain ⟨x5_1, x6_1, rfl, HA, HK1, HO_5, HB⟩ := hrel
        cases gk with
        | zero => exact absurd HA.out (by simp [broadsheetlaw19_ChunkLong.l0])
        | succ k1 =>
          have H := HA.out
          clear HA
          simp only [broadsheetlaw19_ChunkLong.l0] at H
          by_cases c8 : x6_1 < (x5_1.length : Int)
          · rw [if_pos c8] at H
            have c8b0 : decide (x6_1 < (x5_1.length : Int)) = true := decide_eq_true c8
            clear c8
            by_cases c9 : 0 ≤ x6_1
            · rw [if_pos c9] at H
              have c9b0 : decide (0 ≤ x6_1) = true := decide_eq_true c9
              clear c9
              obtain ⟨y264, hy264⟩ : ∃ y_ : List Int, y_ = (x5_1.set (x6_1 : Int).toNat 65) := ⟨_, rfl⟩
              replace H : (broadsheetlaw19_ChunkLong.l0 k1 a1 y264 (wrap64 (x6_1 + 1))) = some r := by first | (rw [hy264]; with_reducible exact H) | (have H2_ := (Option.bind_some _ _).symm.trans H; rw [hy264]; with_reducible exact H2_) | (have H2_ := (Option.bind_some _ _).symm.trans H; with_reducible exact H2_) | with_reducible exact H | (rw [hy264]; exact H) | exact H
              have Ny264 := Aside0.mk hy264
              clear hy264
              have H' := Aside0.mk H
              clear H
              obtain ⟨Ao11, co11, eo11⟩ := Kd.R_slice HO_5.out
              subst eo11
              have p10 : 0 ≤ (x6_1 : Int) := of_decide_eq_true (by first | (with_reducible assumption) | assumption)
              have q10 : (x6_1 : Int) < ((x5_1.length : Int) : Int) := of_decide_eq_true (by first | (with_reducible assumption) | assumption)
              obtain ⟨go10, co10, eo10, gb10, gl10, cl10, HG10⟩ := Kd.R_form HO_5.out (by omega)
              (first | cases eo10 | (injection eo10 with ea_ en_ ec_; (first | subst ea_ | (injection ea_ with ea_; subst ea_)); subst ec_; clear en_))
              have GB10 := Aside0.mk gb10
              have GG10 := Aside0.mk HG10
              clear gb10 gl10 HG10
              obtain ⟨hx10_0, hf10_0⟩ := Kd.R_celln 0 HO_5.out (x6_1 : Int) p10 q10
              replace p10 := eq_true p10
              replace q10 := eq_true q10
              have HP12 := Kd.R_putg HO_5.out (x6_1 : Int) 65
              go_wp2_with (first | ((with_reducible refine gate_store (t := 5) (p := 37) rfl ?_); refine store_event (t := 5) (p := 37) (v := ?vo_w13) (w1 := (wr.setCell ⟨go10, (x6_1 : Int).toNat, none⟩ (.int .u8 65))) ?hg ?ho ?hn ?hr ?_; (case ho => rfl); (case hg => rfl); (case hn => rfl); (case hr => first | (go_simp; done) | (go_simp; rfl)); intro w13 hw; have hg : wr.grownBy w13 (some go10) := (by rw [hw]; exact HP12.2); have hp_ : Kd.R (Kd.int .u8) 5 w13 w.heap.size (fun _ => True) (.slice (some ⟨go10, 0, none⟩) x5_1.length co11) y264 := (by rw [hw, Ny264.out]; exact HP12.1); clear HP12; have n0_ := Aside0.mk (hp_); have n1_ := Aside0.mk ((by rw [hw]; exact below_set (HB.out) GB10.out : Below w.heap.size w w13)); clear HO_5; clear HB; have HO_5 := n0_; have HB := n1_; clear n0_ n1_; clear hg hw hp_))
              go_roundg k1
              case measure => have := HK1.out; omega
              case rel => exact ⟨(y264), (wrap64 (x6_1 + 1)), (by first | rfl | (simp; done) | (simp [*]; done)), H', ⟨by have := HK1.out; omega⟩, ⟨by (with_reducible repeat (first | apply Kd.R_alloc | apply Kd.R_drewN | apply Kd.R_drew)); exact HO_5.out⟩, ⟨by repeat (first | (with_reducible first | exact HB.out | apply below_alloc | apply pw_below_drewN | apply below_drew1) | exact HB.out)⟩⟩
            · rw [if_neg c9] at H
              exact absurd H (by simp)
          · rw [if_neg c8] at H
            have c8b0 : decide (x6_1 < (x5_1.length : Int)) = false := decide_eq_false c8
            clear c8
            replace H := Option.bind_eq_some_iff.mp H
            obtain ⟨⟨t265, t266⟩, A140, H⟩ := H
            replace H : ((broadsheetref19_Encode.f k1 (strOfNums x5_1) (wrap64 (50000 + (Int.tmod (wrap64 (a1)) 40000)))).bind fun bt267 => (if t265.toList = bt267.1.toList then (broadsheetlaw19_ChunkLong.j1 k1 (strOfNums x5_1) (wrap64 (50000 + (Int.tmod (wrap64 (a1)) 40000))) (t266 != bt267.2)) else (broadsheetlaw19_ChunkLong.j1 k1 (strOfNums x5_1) (wrap64 (50000 + (Int.tmod (wrap64 (a1)) 40000))) true))) = some r := H
            have A14 := Aside0.mk A140
            clear A140
            replace H := Option.bind_eq_some_iff.mp H
            obtain ⟨⟨t267, t268⟩, A150, H⟩ := H
            replace H : (if t265.toList = t267.toList then (broadsheetlaw19_ChunkLong.j1 k1 (strOfNums x5_1) (wrap64 (50000 + (Int.tmod (wrap64 (a1)) 40000))) (t266 != t268)) else (broadsheetlaw19_ChunkLong.j1 k1 (strOfNums x5_1) (wrap64 (50000 + (Int.tmod (wrap64 (a1)) 40000))) true)) = some r := H
            have A15 := Aside0.mk A150
            clear A150
            have HC16 := Aside0.mk H
            clear H
            obtain ⟨Ao17, co17, eo17⟩ := Kd.R_slice HO_5.out
            subst eo17
            have hcv18 := own_string (P := Tryz.prog) Tryz.underlying23 Tryz.underlying5 Tryz.underlying9 (Kd.own_of_R HO_5.out)
            have hcvq18 := fun n_ => own_string (P := Tryz.prog) Tryz.underlying23 Tryz.underlying5 Tryz.underlying9 (Kd.own_of_R (Kd.R_drewN HO_5.out n_))
            go_upto_region 10 with (first | ((with_reducible refine gate_callee (f := 10) rfl ?_); refine goesL_ (some 47) rfl rfl Tryz.func10 (by kernel_rfl) rfl #[.string (strOfNums x5_1), .int .i64 (wrap64 (50000 + (Int.tmod (wrap64 (a1)) 40000)))] rfl (by (try simp only [List.map_toArray, List.map_cons, List.map_nil]); first | done | rfl | (simp only [List.length_drop, List.length_take]; rfl)) ?_; (with_reducible refine (chunk_Encode.calls k1 (strOfNums x5_1) (wrap64 (50000 + (Int.tmod (wrap64 (a1)) 40000))) t265 t266 _ ?side1 A14.out).mono ?_); (case side1 => exact Glob.below hGA.out (by repeat (first | (with_reducible first | exact HB.out | apply below_alloc | apply pw_below_drewN | apply below_drew1) | exact HB.out))); rintro e w19 ⟨rfl, hb⟩; refine ⟨_, rfl, ?_⟩; have n0_ := Aside0.mk (Kd.R_below (by (with_reducible repeat (first | apply Kd.R_alloc | apply Kd.R_drewN | apply Kd.R_drew)); exact HO_5.out) hb); have n1_ := Aside0.mk (below_step (by repeat (first | (with_reducible first | exact HB.out | apply below_alloc | apply pw_below_drewN | apply below_drew1) | exact HB.out)) hb); clear HO_5; clear HB; have HO_5 := n0_; have HB := n1_; clear n0_ n1_; (try clear hb); (try clear hb2); (try clear hk); (try clear hi)) | ((with_reducible refine gate_callee (f := 11) rfl ?_); refine goesL_ (some 53) rfl rfl Tryz.func11 (by kernel_rfl) rfl #[.string (strOfNums x5_1), .int .i64 (wrap64 (50000 + (Int.tmod (wrap64 (a1)) 40000)))] rfl (by (try simp only [List.map_toArray, List.map_cons, List.map_nil]); first | done | rfl | (simp only [List.length_drop, List.length_take]; rfl)) ?_; (with_reducible refine (broadsheetref19_Encode.calls k1 (strOfNums x5_1) (wrap64 (50000 + (Int.tmod (wrap64 (a1)) 40000))) t267 t268 _ A15.out).mono ?_); rintro e w20 ⟨rfl, hb⟩; refine ⟨_, rfl, ?_⟩; have n0_ := Aside0.mk (Kd.R_below (by (with_reducible repeat (first | apply Kd.R_alloc | apply Kd.R_drewN | apply Kd.R_drew)); exact HO_5.out) hb); have n1_ := Aside0.mk (below_step (by repeat (first | (with_reducible first | exact HB.out | apply below_alloc | apply pw_below_drewN | apply below_drew1) | exact HB.out)) hb); clear HO_5; clear HB; have HO_5 := n0_; have HB := n1_; clear n0_ n1_; (try clear hb); (try clear hb2); (try clear hk); (try clear hi)))
            (try simp only [Act.put, List.setIfInBounds_toArray, List.set_cons_zero, List.set_cons_succ])
            go_cut [63] (fun v63 wc => ∃ (kq : Nat) (x63_15 : Bool), v63 = .bool x63_15 ∧ Aside0 (broadsheetlaw19_ChunkLong.j1 kq (strOfNums x5_1) (wrap64 (50000 + (Int.tmod (wrap64 (a1)) 40000))) x63_15 = some r) ∧ Aside0 (kq ≤ k1) ∧ Aside0 (Below w.heap.size w wc))
            case first =>
              have H := HC16.out
              clear HC16
              by_cases c21 : t265.toList = t267.toList
              · rw [if_pos c21] at H
                have c21b0 : (t265.toList == t267.toList) = true := beq_iff_eq.mpr c21
                have c21b1 : (t265.toList != t267.toList) = false := bne_eq_false_iff_eq.mpr c21
                clear c21
                (first | rw [c21b0] | (simp only [i64_w, i32_w]; rw [c21b0]) | skip)
                have H' := Aside0.mk H
                clear H
                go_wp2
                go_meet
                case rel => exact ⟨_, ((t266 != t268)), (by first | rfl | (simp; done) | (simp [*]; done)), H', ⟨by have := HK1.out; first | omega | exact Nat.le_refl _⟩, ⟨by repeat (first | (with_reducible first | exact HB.out | apply below_alloc | apply pw_below_drewN | apply below_drew1) | exact HB.out)⟩⟩
              · rw [if_neg c21] at H
                have c21b0 : (t265.toList == t267.toList) = false := beq_eq_false_iff_ne.mpr c21
                have c21b1 : (t265.toList != t267.toList) = true := bne_iff_ne.mpr c21
                (first | rw [c21b0] | (simp only [i64_w, i32_w]; rw [c21b0]) | skip)
                have H' := Aside0.mk H
                clear H
                go_wp2
                go_meet
                case rel => exact ⟨_, (true), (by first | rfl | (simp; done) | (simp [*]; done)), H', ⟨by have := HK1.out; first | omega | exact Nat.le_refl _⟩, ⟨by repeat (first | (with_reducible first | exact HB.out | apply below_alloc | apply pw_below_drewN | apply below_drew1) | exact HB.out)⟩⟩
            case rest =>
              clear HC16
              try clear c1
              try clear p1
              try clear q1
              try clear hx1
              try clear hcv1
              try clear c2
              try clear p2
              try clear c3
              try clear c4
              try clear c4b0
              try clear c4b1
              try clear c5
              try clear c5b0
              try clear c5b1
              try clear p6
              try clear c8
              try clear c8b0
              try clear c9
              try clear c9b0
              try clear c10
              try clear p10
              try clear q10
              try clear hx10
              try clear hf10
              try clear c11
              try clear q18
              try clear hcv18
              try clear c21
              try clear c21b0
              try clear c21b1
              try clear hx10_0
              try clear p10
              try clear p2
              try clear p6
              try clear q10
              obtain ⟨kq, x63_15, rfl, HA, HJ15, HB⟩ := hcut
              cases kq with
              | zero => exact absurd HA.out (by simp [broadsheetlaw19_ChunkLong.j1])
              | succ kj15 =>
                have H := HA.out
                clear HA
                simp only [broadsheetlaw19_ChunkLong.j1] at H
                by_cases c22 : x63_15 = true
                · subst c22
                  have H1 : (some false) = some r := by rw [if_pos rfl] at H; exact H
                  clear H
                  have H := H1
                  clear H1
                  obtain rfl := Option.some.inj H
                  go_wp2
                  go_ret
                  exact ⟨by first | rfl | (simp [errW_none, errW_some, bne_nil_] <;> rfl) | (simp only [← hji3]; first | rfl | (simp [errW_none, errW_some, bne_nil_] <;> rfl)) | (simp [*, errW_none, errW_some] <;> rfl), by repeat (first | (with_reducible first | exact HB.out | apply below_alloc | apply pw_below_drewN | apply below_drew1) | exact HB.out)⟩
                · replace c22 := Bool.eq_false_iff.mpr c22
                  subst c22
                  have H1 : (if 0 ≤ (wrap64 (50000 + (Int.tmod (wrap64 (a1)) 40000))) then (if (wrap64 (50000 + (Int.tmod (wrap64 (a1)) 40000))) ≤ ((strOfNums x5_1).size : Int) then ((chunk_Encode.f kj15 ((strOfNums x5_1).extract 0 ((wrap64 (50000 + (Int.tmod (wrap64 (a1)) 40000))) : Int).toNat) (wrap64 (50000 + (Int.tmod (wrap64 (a1)) 40000)))).bind fun bt269 => ((chunk_Encode.f kj15 ((strOfNums x5_1).extract ((wrap64 (50000 + (Int.tmod (wrap64 (a1)) 40000))) : Int).toNat (strOfNums x5_1).size) 99990).bind fun bt271 => (if (bt269.1.size : Int) < 5 then (some false) else (if 0 ≤ (wrap64 ((bt269.1.size : Int) - 5)) then (if (wrap64 ((bt269.1.size : Int) - 5)) ≤ (bt269.1.size : Int) then (if (bt269.1.extract 0 ((wrap64 ((bt269.1.size : Int) - 5)) : Int).toNat).size + bt271.1.size ≤ 9223372036854775807 then ((chunk_Decode.f kj15 ((bt269.1.extract 0 ((wrap64 ((bt269.1.size : Int) - 5)) : Int).toNat) ++ bt271.1)).bind fun bt273 => ((broadsheetref19_Decode.f kj15 ((bt269.1.extract 0 ((wrap64 ((bt269.1.size : Int) - 5)) : Int).toNat) ++ bt271.1)).bind fun bt276 => ((broadsheetlaw19_awake.f kj15).bind fun t279 => (if t279 = true then (if bt273.1.toList = bt276.1.toList then (if bt273.2.1.toList = bt276.2.1.toList then (some (bt273.2.2 == bt276.2.2)) else (some false)) else (some false)) else (some false))))) else (none)) else (none)) else (none))))) else (none)) else (none)) = some r := by rw [if_neg (show ¬ (false = true) by decide)] at H; exact H
                  clear H
                  have H := H1
                  clear H1
                  obtain ⟨ji23, hji23⟩ : ∃ j_ : Int, (wrap64 (50000 + (Int.tmod (wrap64 (a1)) 40000))) = j_ := ⟨_, rfl⟩
                  replace H : (if 0 ≤ (ji23) then (if (ji23) ≤ ((strOfNums x5_1).size : Int) then ((chunk_Encode.f kj15 ((strOfNums x5_1).extract 0 ((ji23) : Int).toNat) (ji23)).bind fun bt269 => ((chunk_Encode.f kj15 ((strOfNums x5_1).extract ((ji23) : Int).toNat (strOfNums x5_1).size) 99990).bind fun bt271 => (if (bt269.1.size : Int) < 5 then (some false) else (if 0 ≤ (wrap64 ((bt269.1.size : Int) - 5)) then (if (wrap64 ((bt269.1.size : Int) - 5)) ≤ (bt269.1.size : Int) then (if (bt269.1.extract 0 ((wrap64 ((bt269.1.size : Int) - 5)) : Int).toNat).size + bt271.1.size ≤ 9223372036854775807 then ((chunk_Decode.f kj15 ((bt269.1.extract 0 ((wrap64 ((bt269.1.size : Int) - 5)) : Int).toNat) ++ bt271.1)).bind fun bt273 => ((broadsheetref19_Decode.f kj15 ((bt269.1.extract 0 ((wrap64 ((bt269.1.size : Int) - 5)) : Int).toNat) ++ bt271.1)).bind fun bt276 => ((broadsheetlaw19_awake.f kj15).bind fun t279 => (if t279 = true then (if bt273.1.toList = bt276.1.toList then (if bt273.2.1.toList = bt276.2.1.toList then (some (bt273.2.2 == bt276.2.2)) else (some false)) else (some false)) else (some false))))) else (none)) else (none)) else (none))))) else (none)) else (none)) = some r := by first | (rw [hji23] at H; exact H) | (simp only [hji23] at H ⊢; exact H)
                  have hji23w : (IntKind.i64.wrap (50000 + (Int.tmod (wrap64 (a1)) 40000))) = ji23 := (i64_w _).trans hji23
                  by_cases c24 : 0 ≤ (ji23)
                  · rw [if_pos c24] at H
                    have c24b0 := eq_true c24
                    have c24b1 : decide (0 ≤ (ji23)) = true := decide_eq_true c24
                    clear c24
                    by_cases c25 : (ji23) ≤ ((strOfNums x5_1).size : Int)
                    · rw [if_pos c25] at H
                      have c25b0 := eq_true c25
                      have c25b1 : decide ((ji23) ≤ ((strOfNums x5_1).size : Int)) = true := decide_eq_true c25
                      clear c25
                      replace H := Option.bind_eq_some_iff.mp H
                      obtain ⟨⟨t269, t270⟩, A260, H⟩ := H
                      replace H : ((chunk_Encode.f kj15 ((strOfNums x5_1).extract ((ji23) : Int).toNat (strOfNums x5_1).size) 99990).bind fun bt271 => (if (t269.size : Int) < 5 then (some false) else (if 0 ≤ (wrap64 ((t269.size : Int) - 5)) then (if (wrap64 ((t269.size : Int) - 5)) ≤ (t269.size : Int) then (if (t269.extract 0 ((wrap64 ((t269.size : Int) - 5)) : Int).toNat).size + bt271.1.size ≤ 9223372036854775807 then ((chunk_Decode.f kj15 ((t269.extract 0 ((wrap64 ((t269.size : Int) - 5)) : Int).toNat) ++ bt271.1)).bind fun bt273 => ((broadsheetref19_Decode.f kj15 ((t269.extract 0 ((wrap64 ((t269.size : Int) - 5)) : Int).toNat) ++ bt271.1)).bind fun bt276 => ((broadsheetlaw19_awake.f kj15).bind fun t279 => (if t279 = true then (if bt273.1.toList = bt276.1.toList then (if bt273.2.1.toList = bt276.2.1.toList then (some (bt273.2.2 == bt276.2.2)) else (some false)) else (some false)) else (some false))))) else (none)) else (none)) else (none)))) = some r := H
                      have A26 := Aside0.mk A260
                      clear A260
                      have c27b0 := eq_true (of_decide_eq_true (by first | (with_reducible assumption) | assumption) : 0 ≤ (ji23))
                      have c28b0 := eq_true (of_decide_eq_true (by first | (with_reducible assumption) | assumption) : (ji23) ≤ ((strOfNums x5_1).size : Int))
                      replace H := Option.bind_eq_some_iff.mp H
                      obtain ⟨⟨t271, t272⟩, A290, H⟩ := H
                      replace H : (if (t269.size : Int) < 5 then (some false) else (if 0 ≤ (wrap64 ((t269.size : Int) - 5)) then (if (wrap64 ((t269.size : Int) - 5)) ≤ (t269.size : Int) then (if (t269.extract 0 ((wrap64 ((t269.size : Int) - 5)) : Int).toNat).size + t271.size ≤ 9223372036854775807 then ((chunk_Decode.f kj15 ((t269.extract 0 ((wrap64 ((t269.size : Int) - 5)) : Int).toNat) ++ t271)).bind fun bt273 => ((broadsheetref19_Decode.f kj15 ((t269.extract 0 ((wrap64 ((t269.size : Int) - 5)) : Int).toNat) ++ t271)).bind fun bt276 => ((broadsheetlaw19_awake.f kj15).bind fun t279 => (if t279 = true then (if bt273.1.toList = bt276.1.toList then (if bt273.2.1.toList = bt276.2.1.toList then (some (bt273.2.2 == bt276.2.2)) else (some false)) else (some false)) else (some false))))) else (none)) else (none)) else (none))) = some r := H
                      have A29 := Aside0.mk A290
                      clear A290
                      by_cases c30 : (t269.size : Int) < 5
                      · rw [if_pos c30] at H
                        have c30b0 : decide ((t269.size : Int) < 5) = true := decide_eq_true c30
                        have c30b1 : decide (t269.size < 5) = true := decide_eq_true (by omega)
                        clear c30
                        obtain rfl := Option.some.inj H
                        go_wp2_with (first | ((with_reducible refine gate_callee (f := 10) rfl ?_); refine goesL_ (some 69) rfl rfl Tryz.func10 (by kernel_rfl) rfl #[.string ((strOfNums x5_1).extract 0 ((ji23) : Int).toNat), .int .i64 (ji23)] rfl (by (try simp only [List.map_toArray, List.map_cons, List.map_nil]); first | done | (simp only [hji23]; rfl) | rfl | (simp only [List.length_drop, List.length_take]; rfl)) ?_; (with_reducible refine (chunk_Encode.calls kj15 ((strOfNums x5_1).extract 0 ((ji23) : Int).toNat) (ji23) t269 t270 _ ?side1 A26.out).mono ?_); (case side1 => exact Glob.below hGA.out (by repeat (first | (with_reducible first | exact HB.out | apply below_alloc | apply pw_below_drewN | apply below_drew1) | exact HB.out))); rintro e w31 ⟨rfl, hb⟩; refine ⟨_, rfl, ?_⟩; have n0_ := Aside0.mk (below_step (by repeat (first | (with_reducible first | exact HB.out | apply below_alloc | apply pw_below_drewN | apply below_drew1) | exact HB.out)) hb); clear HB; have HB := n0_; clear n0_; (try clear hb); (try clear hb2); (try clear hk); (try clear hi)) | ((with_reducible refine gate_callee (f := 10) rfl ?_); refine goesL_ (some 76) rfl rfl Tryz.func10 (by kernel_rfl) rfl #[.string ((strOfNums x5_1).extract ((ji23) : Int).toNat (strOfNums x5_1).size), .int .i64 99990] rfl (by (try simp only [List.map_toArray, List.map_cons, List.map_nil]); first | done | (simp only [hji23]; rfl) | rfl | (simp only [List.length_drop, List.length_take]; rfl)) ?_; (with_reducible refine (chunk_Encode.calls kj15 ((strOfNums x5_1).extract ((ji23) : Int).toNat (strOfNums x5_1).size) 99990 t271 t272 _ ?side1 A29.out).mono ?_); (case side1 => exact Glob.below hGA.out (by repeat (first | (with_reducible first | exact HB.out | apply below_alloc | apply pw_below_drewN | apply below_drew1) | exact HB.out))); rintro e w32 ⟨rfl, hb⟩; refine ⟨_, rfl, ?_⟩; have n0_ := Aside0.mk (below_step (by repeat (first | (with_reducible first | exact HB.out | apply below_alloc | apply pw_below_drewN | apply below_drew1) | exact HB.out)) hb); clear HB; have HB := n0_; clear n0_; (try clear hb); (try clear hb2); (try clear hk); (try clear hi)))
                        go_ret
                        exact ⟨by first | rfl | (simp [errW_none, errW_some, bne_nil_] <;> rfl) | (simp only [← hji3, ← hji23]; first | rfl | (simp [errW_none, errW_some, bne_nil_] <;> rfl)) | (simp [*, errW_none, errW_some] <;> rfl), by repeat (first | (with_reducible first | exact HB.out | apply below_alloc | apply pw_below_drewN | apply below_drew1) | exact HB.out)⟩
                      · rw [if_neg c30] at H
                        have c30b0 : decide ((t269.size : Int) < 5) = false := decide_eq_false c30
                        have c30b1 : decide (t269.size < 5) = false := decide_eq_false (by omega)
                        clear c30
                        obtain ⟨ji33, hji33⟩ : ∃ j_ : Int, (wrap64 ((t269.size : Int) - 5)) = j_ := ⟨_, rfl⟩
                        replace H : (if 0 ≤ (ji33) then (if (ji33) ≤ (t269.size : Int) then (if (t269.extract 0 ((ji33) : Int).toNat).size + t271.size ≤ 9223372036854775807 then ((chunk_Decode.f kj15 ((t269.extract 0 ((ji33) : Int).toNat) ++ t271)).bind fun bt273 => ((broadsheetref19_Decode.f kj15 ((t269.extract 0 ((ji33) : Int).toNat) ++ t271)).bind fun bt276 => ((broadsheetlaw19_awake.f kj15).bind fun t279 => (if t279 = true then (if bt273.1.toList = bt276.1.toList then (if bt273.2.1.toList = bt276.2.1.toList then (some (bt273.2.2 == bt276.2.2)) else (some false)) else (some false)) else (some false))))) else (none)) else (none)) else (none)) = some r := by first | (rw [hji33] at H; exact H) | (simp only [hji33] at H ⊢; exact H)
                        (try rw [hji33] at A26)
                        (try rw [hji33] at A29)
                        have hji33w : (IntKind.i64.wrap ((t269.size : Int) - 5)) = ji33 := (i64_w _).trans hji33
                        by_cases c34 : 0 ≤ (ji33)
                        · rw [if_pos c34] at H
                          have c34b0 := eq_true c34
                          have c34b1 : decide (0 ≤ (ji33)) = true := decide_eq_true c34
                          clear c34
                          by_cases c35 : (ji33) ≤ (t269.size : Int)
                          · rw [if_pos c35] at H
                            have c35b0 := eq_true c35
                            have c35b1 : decide ((ji33) ≤ (t269.size : Int)) = true := decide_eq_true c35
                            clear c35
                            by_cases c36 : (t269.extract 0 ((ji33) : Int).toNat).size + t271.size ≤ 9223372036854775807
                            · rw [if_pos c36] at H
                              have c36b0 := eq_true c36
                              have c36b1 : decide ((t269.extract 0 ((ji33) : Int).toNat).size + t271.size ≤ 9223372036854775807) = true := decide_eq_true c36
                              try have c36b2 : (9223372036854775807 < (t269.extract 0 ((ji33) : Int).toNat).size + t271.size) = False := eq_false (Nat.not_lt.2 c36)
                              obtain ⟨nc36, hc36⟩ : ∃ n_ : Nat, n_ = (t269.extract 0 ((ji33) : Int).toNat).size + t271.size := ⟨_, rfl⟩
                              have c36m0 : nc36 ≤ 9223372036854775807 := by rw [hc36]; exact c36
                              (first | simp [go_sem, c4b0, c5b0, c24b0, c25b0, c34b0, c35b0] at hc36 | simp [go_sem] at hc36 | skip)
                              rw [hc36] at c36m0
                              have c36m1 := eq_false (Nat.not_lt.2 c36m0)
                              have c36m2 := decide_eq_true c36m0
                              clear hc36 c36m0
                              replace H := Option.bind_eq_some_iff.mp H
                              obtain ⟨⟨t273, t274, t275⟩, A370, H⟩ := H
                              replace H : ((broadsheetref19_Decode.f kj15 ((t269.extract 0 ((ji33) : Int).toNat) ++ t271)).bind fun bt276 => ((broadsheetlaw19_awake.f kj15).bind fun t279 => (if t279 = true then (if t273.toList = bt276.1.toList then (if t274.toList = bt276.2.1.toList then (some (t275 == bt276.2.2)) else (some false)) else (some false)) else (some false)))) = some r := H
                              have A37 := Aside0.mk A370
                              clear A370
                              replace H := Option.bind_eq_some_iff.mp H
                              obtain ⟨⟨t276, t277, t278⟩, A380, H⟩ := H
                              replace H : ((broadsheetlaw19_awake.f kj15).bind fun t279 => (if t279 = true then (if t273.toList = t276.toList then (if t274.toList = t277.toList then (some (t275 == t278)) else (some false)) else (some false)) else (some false))) = some r := H
                              have A38 := Aside0.mk A380
                              clear A380
                              replace H := Option.bind_eq_some_iff.mp H
                              obtain ⟨t279, A390, H⟩ := H
                              replace H : (if t279 = true then (if t273.toList = t276.toList then (if t274.toList = t277.toList then (some (t275 == t278)) else (some false)) else (some false)) else (some false)) = some r := H
                              have A39 := Aside0.mk A390
                              clear A390
                              by_cases c40 : t279 = true
                              · subst c40
                                have H1 : (if t273.toList = t276.toList then (if t274.toList = t277.toList then (some (t275 == t278)) else (some false)) else (some false)) = some r := by rw [if_pos rfl] at H; exact H
                                clear H
                                have H := H1
                                clear H1
                                by_cases c41 : t273.toList = t276.toList
                                · rw [if_pos c41] at H
                                  have c41b0 : (t273.toList == t276.toList) = true := beq_iff_eq.mpr c41
                                  have c41b1 : (t273.toList != t276.toList) = false := bne_eq_false_iff_eq.mpr c41
                                  clear c41
                                  by_cases c42 : t274.toList = t277.toList
                                  · rw [if_pos c42] at H
                                    have c42b0 : (t274.toList == t277.toList) = true := beq_iff_eq.mpr c42
                                    have c42b1 : (t274.toList != t277.toList) = false := bne_eq_false_iff_eq.mpr c42
                                    clear c42
                                    obtain rfl := Option.some.inj H
                                    go_wp2_with (first | ((with_reducible refine gate_callee (f := 10) rfl ?_); refine goesL_ (some 69) rfl rfl Tryz.func10 (by kernel_rfl) rfl #[.string ((strOfNums x5_1).extract 0 ((ji23) : Int).toNat), .int .i64 (ji23)] rfl (by (try simp only [List.map_toArray, List.map_cons, List.map_nil]); first | done | (simp only [hji23]; rfl) | rfl | (simp only [List.length_drop, List.length_take]; rfl)) ?_; (with_reducible refine (chunk_Encode.calls kj15 ((strOfNums x5_1).extract 0 ((ji23) : Int).toNat) (ji23) t269 t270 _ ?side1 A26.out).mono ?_); (case side1 => exact Glob.below hGA.out (by repeat (first | (with_reducible first | exact HB.out | apply below_alloc | apply pw_below_drewN | apply below_drew1) | exact HB.out))); rintro e w43 ⟨rfl, hb⟩; refine ⟨_, rfl, ?_⟩; have n0_ := Aside0.mk (below_step (by repeat (first | (with_reducible first | exact HB.out | apply below_alloc | apply pw_below_drewN | apply below_drew1) | exact HB.out)) hb); clear HB; have HB := n0_; clear n0_; (try clear hb); (try clear hb2); (try clear hk); (try clear hi)) | ((with_reducible refine gate_callee (f := 10) rfl ?_); refine goesL_ (some 76) rfl rfl Tryz.func10 (by kernel_rfl) rfl #[.string ((strOfNums x5_1).extract ((ji23) : Int).toNat (strOfNums x5_1).size), .int .i64 99990] rfl (by (try simp only [List.map_toArray, List.map_cons, List.map_nil]); first | done | (simp only [hji23]; rfl) | rfl | (simp only [List.length_drop, List.length_take]; rfl)) ?_; (with_reducible refine (chunk_Encode.calls kj15 ((strOfNums x5_1).extract ((ji23) : Int).toNat (strOfNums x5_1).size) 99990 t271 t272 _ ?side1 A29.out).mono ?_); (case side1 => exact Glob.below hGA.out (by repeat (first | (with_reducible first | exact HB.out | apply below_alloc | apply pw_below_drewN | apply below_drew1) | exact HB.out))); rintro e w44 ⟨rfl, hb⟩; refine ⟨_, rfl, ?_⟩; have n0_ := Aside0.mk (below_step (by repeat (first | (with_reducible first | exact HB.out | apply below_alloc | apply pw_below_drewN | apply below_drew1) | exact HB.out)) hb); clear HB; have HB := n0_; clear n0_; (try clear hb); (try clear hb2); (try clear hk); (try clear hi)) | ((with_reducible refine gate_callee (f := 12) rfl ?_); refine goesL_ (some 91) rfl rfl Tryz.func12 (by kernel_rfl) rfl #[.string ((t269.extract 0 ((ji33) : Int).toNat) ++ t271)] rfl (by (try simp only [List.map_toArray, List.map_cons, List.map_nil]); first | done | (simp only [hji33]; rfl) | rfl | (simp only [List.length_drop, List.length_take]; rfl)) ?_; (with_reducible refine (chunk_Decode.calls kj15 ((t269.extract 0 ((ji33) : Int).toNat) ++ t271) t273 t274 t275 _ ?side1 A37.out).mono ?_); (case side1 => exact Glob.below hGA.out (by repeat (first | (with_reducible first | exact HB.out | apply below_alloc | apply pw_below_drewN | apply below_drew1) | exact HB.out))); rintro e w45 ⟨rfl, hb⟩; refine ⟨_, rfl, ?_⟩; have n0_ := Aside0.mk (below_step (by repeat (first | (with_reducible first | exact HB.out | apply below_alloc | apply pw_below_drewN | apply below_drew1) | exact HB.out)) hb); clear HB; have HB := n0_; clear n0_; (try clear hb); (try clear hb2); (try clear hk); (try clear hi)) | ((with_reducible refine gate_callee (f := 13) rfl ?_); refine goesL_ (some 97) rfl rfl Tryz.func13 (by kernel_rfl) rfl #[.string ((t269.extract 0 ((ji33) : Int).toNat) ++ t271)] rfl (by (try simp only [List.map_toArray, List.map_cons, List.map_nil]); first | done | (simp only [hji33]; rfl) | rfl | (simp only [List.length_drop, List.length_take]; rfl)) ?_; (with_reducible refine (broadsheetref19_Decode.calls kj15 ((t269.extract 0 ((ji33) : Int).toNat) ++ t271) t276 t277 t278 _ A38.out).mono ?_); rintro e w46 ⟨rfl, hb⟩; refine ⟨_, rfl, ?_⟩; have n0_ := Aside0.mk (below_step (by repeat (first | (with_reducible first | exact HB.out | apply below_alloc | apply pw_below_drewN | apply below_drew1) | exact HB.out)) hb); clear HB; have HB := n0_; clear n0_; (try clear hb); (try clear hb2); (try clear hk); (try clear hi)) | ((with_reducible refine gate_callee (f := 14) rfl ?_); refine goesL_ (some 101) rfl rfl Tryz.func14 (by kernel_rfl) rfl #[] rfl (by (try simp only [List.map_toArray, List.map_cons, List.map_nil]); first | done | rfl | (simp only [List.length_drop, List.length_take]; rfl)) ?_; (with_reducible refine (broadsheetlaw19_awake.calls kj15  true _ ?side1 A39.out).mono ?_); (case side1 => exact Glob.below hGA.out (by repeat (first | (with_reducible first | exact HB.out | apply below_alloc | apply pw_below_drewN | apply below_drew1) | exact HB.out))); rintro e w47 ⟨rfl, hb⟩; refine ⟨_, rfl, ?_⟩; have n0_ := Aside0.mk (below_step (by repeat (first | (with_reducible first | exact HB.out | apply below_alloc | apply pw_below_drewN | apply below_drew1) | exact HB.out)) hb); clear HB; have HB := n0_; clear n0_; (try clear hb); (try clear hb2); (try clear hk); (try clear hi)))
                                    go_ret
                                    exact ⟨by first | rfl | (simp [errW_none, errW_some, bne_nil_] <;> rfl) | (simp only [← hji3, ← hji23, ← hji33]; first | rfl | (simp [errW_none, errW_some, bne_nil_] <;> rfl)) | (simp [*, errW_none, errW_some] <;> rfl), by repeat (first | (with_reducible first | exact HB.out | apply below_alloc | apply pw_below_drewN | apply below_drew1) | exact HB.out)⟩
                                  · rw [if_neg c42] at H
                                    have c42b0 : (t274.toList == t277.toList) = false := beq_eq_false_iff_ne.mpr c42
                                    have c42b1 : (t274.toList != t277.toList) = true := bne_iff_ne.mpr c42
                                    obtain rfl := Option.some.inj H
                                    go_wp2_with (first | ((with_reducible refine gate_callee (f := 10) rfl ?_); refine goesL_ (some 69) rfl rfl Tryz.func10 (by kernel_rfl) rfl #[.string ((strOfNums x5_1).extract 0 ((ji23) : Int).toNat), .int .i64 (ji23)] rfl (by (try simp only [List.map_toArray, List.map_cons, List.map_nil]); first | done | (simp only [hji23]; rfl) | rfl | (simp only [List.length_drop, List.length_take]; rfl)) ?_; (with_reducible refine (chunk_Encode.calls kj15 ((strOfNums x5_1).extract 0 ((ji23) : Int).toNat) (ji23) t269 t270 _ ?side1 A26.out).mono ?_); (case side1 => exact Glob.below hGA.out (by repeat (first | (with_reducible first | exact HB.out | apply below_alloc | apply pw_below_drewN | apply below_drew1) | exact HB.out))); rintro e w48 ⟨rfl, hb⟩; refine ⟨_, rfl, ?_⟩; have n0_ := Aside0.mk (below_step (by repeat (first | (with_reducible first | exact HB.out | apply below_alloc | apply pw_below_drewN | apply below_drew1) | exact HB.out)) hb); clear HB; have HB := n0_; clear n0_; (try clear hb); (try clear hb2); (try clear hk); (try clear hi)) | ((with_reducible refine gate_callee (f := 10) rfl ?_); refine goesL_ (some 76) rfl rfl Tryz.func10 (by kernel_rfl) rfl #[.string ((strOfNums x5_1).extract ((ji23) : Int).toNat (strOfNums x5_1).size), .int .i64 99990] rfl (by (try simp only [List.map_toArray, List.map_cons, List.map_nil]); first | done | (simp only [hji23]; rfl) | rfl | (simp only [List.length_drop, List.length_take]; rfl)) ?_; (with_reducible refine (chunk_Encode.calls kj15 ((strOfNums x5_1).extract ((ji23) : Int).toNat (strOfNums x5_1).size) 99990 t271 t272 _ ?side1 A29.out).mono ?_); (case side1 => exact Glob.below hGA.out (by repeat (first | (with_reducible first | exact HB.out | apply below_alloc | apply pw_below_drewN | apply below_drew1) | exact HB.out))); rintro e w49 ⟨rfl, hb⟩; refine ⟨_, rfl, ?_⟩; have n0_ := Aside0.mk (below_step (by repeat (first | (with_reducible first | exact HB.out | apply below_alloc | apply pw_below_drewN | apply below_drew1) | exact HB.out)) hb); clear HB; have HB := n0_; clear n0_; (try clear hb); (try clear hb2); (try clear hk); (try clear hi)) | ((with_reducible refine gate_callee (f := 12) rfl ?_); refine goesL_ (some 91) rfl rfl Tryz.func12 (by kernel_rfl) rfl #[.string ((t269.extract 0 ((ji33) : Int).toNat) ++ t271)] rfl (by (try simp only [List.map_toArray, List.map_cons, List.map_nil]); first | done | (simp only [hji33]; rfl) | rfl | (simp only [List.length_drop, List.length_take]; rfl)) ?_; (with_reducible refine (chunk_Decode.calls kj15 ((t269.extract 0 ((ji33) : Int).toNat) ++ t271) t273 t274 t275 _ ?side1 A37.out).mono ?_); (case side1 => exact Glob.below hGA.out (by repeat (first | (with_reducible first | exact HB.out | apply below_alloc | apply pw_below_drewN | apply below_drew1) | exact HB.out))); rintro e w50 ⟨rfl, hb⟩; refine ⟨_, rfl, ?_⟩; have n0_ := Aside0.mk (below_step (by repeat (first | (with_reducible first | exact HB.out | apply below_alloc | apply pw_below_drewN | apply below_drew1) | exact HB.out)) hb); clear HB; have HB := n0_; clear n0_; (try clear hb); (try clear hb2); (try clear hk); (try clear hi)) | ((with_reducible refine gate_callee (f := 13) rfl ?_); refine goesL_ (some 97) rfl rfl Tryz.func13 (by kernel_rfl) rfl #[.string ((t269.extract 0 ((ji33) : Int).toNat) ++ t271)] rfl (by (try simp only [List.map_toArray, List.map_cons, List.map_nil]); first | done | (simp only [hji33]; rfl) | rfl | (simp only [List.length_drop, List.length_take]; rfl)) ?_; (with_reducible refine (broadsheetref19_Decode.calls kj15 ((t269.extract 0 ((ji33) : Int).toNat) ++ t271) t276 t277 t278 _ A38.out).mono ?_); rintro e w51 ⟨rfl, hb⟩; refine ⟨_, rfl, ?_⟩; have n0_ := Aside0.mk (below_step (by repeat (first | (with_reducible first | exact HB.out | apply below_alloc | apply pw_below_drewN | apply below_drew1) | exact HB.out)) hb); clear HB; have HB := n0_; clear n0_; (try clear hb); (try clear hb2); (try clear hk); (try clear hi)) | ((with_reducible refine gate_callee (f := 14) rfl ?_); refine goesL_ (some 101) rfl rfl Tryz.func14 (by kernel_rfl) rfl #[] rfl (by (try simp only [List.map_toArray, List.map_cons, List.map_nil]); first | done | rfl | (simp only [List.length_drop, List.length_take]; rfl)) ?_; (with_reducible refine (broadsheetlaw19_awake.calls kj15  true _ ?side1 A39.out).mono ?_); (case side1 => exact Glob.below hGA.out (by repeat (first | (with_reducible first | exact HB.out | apply below_alloc | apply pw_below_drewN | apply below_drew1) | exact HB.out))); rintro e w52 ⟨rfl, hb⟩; refine ⟨_, rfl, ?_⟩; have n0_ := Aside0.mk (below_step (by repeat (first | (with_reducible first | exact HB.out | apply below_alloc | apply pw_below_drewN | apply below_drew1) | exact HB.out)) hb); clear HB; have HB := n0_; clear n0_; (try clear hb); (try clear hb2); (try clear hk); (try clear hi)))
                                    go_ret
                                    exact ⟨by first | rfl | (simp [errW_none, errW_some, bne_nil_] <;> rfl) | (simp only [← hji3, ← hji23, ← hji33]; first | rfl | (simp [errW_none, errW_some, bne_nil_] <;> rfl)) | (simp [*, errW_none, errW_some] <;> rfl), by repeat (first | (with_reducible first | exact HB.out | apply below_alloc | apply pw_below_drewN | apply below_drew1) | exact HB.out)⟩
                                · rw [if_neg c41] at H
                                  have c41b0 : (t273.toList == t276.toList) = false := beq_eq_false_iff_ne.mpr c41
                                  have c41b1 : (t273.toList != t276.toList) = true := bne_iff_ne.mpr c41
                                  obtain rfl := Option.some.inj H
                                  go_wp2_with (first | ((with_reducible refine gate_callee (f := 10) rfl ?_); refine goesL_ (some 69) rfl rfl Tryz.func10 (by kernel_rfl) rfl #[.string ((strOfNums x5_1).extract 0 ((ji23) : Int).toNat), .int .i64 (ji23)] rfl (by (try simp only [List.map_toArray, List.map_cons, List.map_nil]); first | done | (simp only [hji23]; rfl) | rfl | (simp only [List.length_drop, List.length_take]; rfl)) ?_; (with_reducible refine (chunk_Encode.calls kj15 ((strOfNums x5_1).extract 0 ((ji23) : Int).toNat) (ji23) t269 t270 _ ?side1 A26.out).mono ?_); (case side1 => exact Glob.below hGA.out (by repeat (first | (with_reducible first | exact HB.out | apply below_alloc | apply pw_below_drewN | apply below_drew1) | exact HB.out))); rintro e w53 ⟨rfl, hb⟩; refine ⟨_, rfl, ?_⟩; have n0_ := Aside0.mk (below_step (by repeat (first | (with_reducible first | exact HB.out | apply below_alloc | apply pw_below_drewN | apply below_drew1) | exact HB.out)) hb); clear HB; have HB := n0_; clear n0_; (try clear hb); (try clear hb2); (try clear hk); (try clear hi)) | ((with_reducible refine gate_callee (f := 10) rfl ?_); refine goesL_ (some 76) rfl rfl Tryz.func10 (by kernel_rfl) rfl #[.string ((strOfNums x5_1).extract ((ji23) : Int).toNat (strOfNums x5_1).size), .int .i64 99990] rfl (by (try simp only [List.map_toArray, List.map_cons, List.map_nil]); first | done | (simp only [hji23]; rfl) | rfl | (simp only [List.length_drop, List.length_take]; rfl)) ?_; (with_reducible refine (chunk_Encode.calls kj15 ((strOfNums x5_1).extract ((ji23) : Int).toNat (strOfNums x5_1).size) 99990 t271 t272 _ ?side1 A29.out).mono ?_); (case side1 => exact Glob.below hGA.out (by repeat (first | (with_reducible first | exact HB.out | apply below_alloc | apply pw_below_drewN | apply below_drew1) | exact HB.out))); rintro e w54 ⟨rfl, hb⟩; refine ⟨_, rfl, ?_⟩; have n0_ := Aside0.mk (below_step (by repeat (first | (with_reducible first | exact HB.out | apply below_alloc | apply pw_below_drewN | apply below_drew1) | exact HB.out)) hb); clear HB; have HB := n0_; clear n0_; (try clear hb); (try clear hb2); (try clear hk); (try clear hi)) | ((with_reducible refine gate_callee (f := 12) rfl ?_); refine goesL_ (some 91) rfl rfl Tryz.func12 (by kernel_rfl) rfl #[.string ((t269.extract 0 ((ji33) : Int).toNat) ++ t271)] rfl (by (try simp only [List.map_toArray, List.map_cons, List.map_nil]); first | done | (simp only [hji33]; rfl) | rfl | (simp only [List.length_drop, List.length_take]; rfl)) ?_; (with_reducible refine (chunk_Decode.calls kj15 ((t269.extract 0 ((ji33) : Int).toNat) ++ t271) t273 t274 t275 _ ?side1 A37.out).mono ?_); (case side1 => exact Glob.below hGA.out (by repeat (first | (with_reducible first | exact HB.out | apply below_alloc | apply pw_below_drewN | apply below_drew1) | exact HB.out))); rintro e w55 ⟨rfl, hb⟩; refine ⟨_, rfl, ?_⟩; have n0_ := Aside0.mk (below_step (by repeat (first | (with_reducible first | exact HB.out | apply below_alloc | apply pw_below_drewN | apply below_drew1) | exact HB.out)) hb); clear HB; have HB := n0_; clear n0_; (try clear hb); (try clear hb2); (try clear hk); (try clear hi)) | ((with_reducible refine gate_callee (f := 13) rfl ?_); refine goesL_ (some 97) rfl rfl Tryz.func13 (by kernel_rfl) rfl #[.string ((t269.extract 0 ((ji33) : Int).toNat) ++ t271)] rfl (by (try simp only [List.map_toArray, List.map_cons, List.map_nil]); first | done | (simp only [hji33]; rfl) | rfl | (simp only [List.length_drop, List.length_take]; rfl)) ?_; (with_reducible refine (broadsheetref19_Decode.calls kj15 ((t269.extract 0 ((ji33) : Int).toNat) ++ t271) t276 t277 t278 _ A38.out).mono ?_); rintro e w56 ⟨rfl, hb⟩; refine ⟨_, rfl, ?_⟩; have n0_ := Aside0.mk (below_step (by repeat (first | (with_reducible first | exact HB.out | apply below_alloc | apply pw_below_drewN | apply below_drew1) | exact HB.out)) hb); clear HB; have HB := n0_; clear n0_; (try clear hb); (try clear hb2); (try clear hk); (try clear hi)) | ((with_reducible refine gate_callee (f := 14) rfl ?_); refine goesL_ (some 101) rfl rfl Tryz.func14 (by kernel_rfl) rfl #[] rfl (by (try simp only [List.map_toArray, List.map_cons, List.map_nil]); first | done | rfl | (simp only [List.length_drop, List.length_take]; rfl)) ?_; (with_reducible refine (broadsheetlaw19_awake.calls kj15  true _ ?side1 A39.out).mono ?_); (case side1 => exact Glob.below hGA.out (by repeat (first | (with_reducible first | exact HB.out | apply below_alloc | apply pw_below_drewN | apply below_drew1) | exact HB.out))); rintro e w57 ⟨rfl, hb⟩; refine ⟨_, rfl, ?_⟩; have n0_ := Aside0.mk (below_step (by repeat (first | (with_reducible first | exact HB.out | apply below_alloc | apply pw_below_drewN | apply below_drew1) | exact HB.out)) hb); clear HB; have HB := n0_; clear n0_; (try clear hb); (try clear hb2); (try clear hk); (try clear hi)))
                                  go_ret
                                  exact ⟨by first | rfl | (simp [errW_none, errW_some, bne_nil_] <;> rfl) | (simp only [← hji3, ← hji23, ← hji33]; first | rfl | (simp [errW_none, errW_some, bne_nil_] <;> rfl)) | (simp [*, errW_none, errW_some] <;> rfl), by repeat (first | (with_reducible first | exact HB.out | apply below_alloc | apply pw_below_drewN | apply below_drew1) | exact HB.out)⟩
                              · replace c40 := Bool.eq_false_iff.mpr c40
                                subst c40
                                have H1 : (some false) = some r := by rw [if_neg (show ¬ (false = true) by decide)] at H; exact H
                                clear H
                                have H := H1
                                clear H1
                                obtain rfl := Option.some.inj H
                                go_wp2_with (first | ((with_reducible refine gate_callee (f := 10) rfl ?_); refine goesL_ (some 69) rfl rfl Tryz.func10 (by kernel_rfl) rfl #[.string ((strOfNums x5_1).extract 0 ((ji23) : Int).toNat), .int .i64 (ji23)] rfl (by (try simp only [List.map_toArray, List.map_cons, List.map_nil]); first | done | (simp only [hji23]; rfl) | rfl | (simp only [List.length_drop, List.length_take]; rfl)) ?_; (with_reducible refine (chunk_Encode.calls kj15 ((strOfNums x5_1).extract 0 ((ji23) : Int).toNat) (ji23) t269 t270 _ ?side1 A26.out).mono ?_); (case side1 => exact Glob.below hGA.out (by repeat (first | (with_reducible first | exact HB.out | apply below_alloc | apply pw_below_drewN | apply below_drew1) | exact HB.out))); rintro e w58 ⟨rfl, hb⟩; refine ⟨_, rfl, ?_⟩; have n0_ := Aside0.mk (below_step (by repeat (first | (with_reducible first | exact HB.out | apply below_alloc | apply pw_below_drewN | apply below_drew1) | exact HB.out)) hb); clear HB; have HB := n0_; clear n0_; (try clear hb); (try clear hb2); (try clear hk); (try clear hi)) | ((with_reducible refine gate_callee (f := 10) rfl ?_); refine goesL_ (some 76) rfl rfl Tryz.func10 (by kernel_rfl) rfl #[.string ((strOfNums x5_1).extract ((ji23) : Int).toNat (strOfNums x5_1).size), .int .i64 99990] rfl (by (try simp only [List.map_toArray, List.map_cons, List.map_nil]); first | done | (simp only [hji23]; rfl) | rfl | (simp only [List.length_drop, List.length_take]; rfl)) ?_; (with_reducible refine (chunk_Encode.calls kj15 ((strOfNums x5_1).extract ((ji23) : Int).toNat (strOfNums x5_1).size) 99990 t271 t272 _ ?side1 A29.out).mono ?_); (case side1 => exact Glob.below hGA.out (by repeat (first | (with_reducible first | exact HB.out | apply below_alloc | apply pw_below_drewN | apply below_drew1) | exact HB.out))); rintro e w59 ⟨rfl, hb⟩; refine ⟨_, rfl, ?_⟩; have n0_ := Aside0.mk (below_step (by repeat (first | (with_reducible first | exact HB.out | apply below_alloc | apply pw_below_drewN | apply below_drew1) | exact HB.out)) hb); clear HB; have HB := n0_; clear n0_; (try clear hb); (try clear hb2); (try clear hk); (try clear hi)) | ((with_reducible refine gate_callee (f := 12) rfl ?_); refine goesL_ (some 91) rfl rfl Tryz.func12 (by kernel_rfl) rfl #[.string ((t269.extract 0 ((ji33) : Int).toNat) ++ t271)] rfl (by (try simp only [List.map_toArray, List.map_cons, List.map_nil]); first | done | (simp only [hji33]; rfl) | rfl | (simp only [List.length_drop, List.length_take]; rfl)) ?_; (with_reducible refine (chunk_Decode.calls kj15 ((t269.extract 0 ((ji33) : Int).toNat) ++ t271) t273 t274 t275 _ ?side1 A37.out).mono ?_); (case side1 => exact Glob.below hGA.out (by repeat (first | (with_reducible first | exact HB.out | apply below_alloc | apply pw_below_drewN | apply below_drew1) | exact HB.out))); rintro e w60 ⟨rfl, hb⟩; refine ⟨_, rfl, ?_⟩; have n0_ := Aside0.mk (below_step (by repeat (first | (with_reducible first | exact HB.out | apply below_alloc | apply pw_below_drewN | apply below_drew1) | exact HB.out)) hb); clear HB; have HB := n0_; clear n0_; (try clear hb); (try clear hb2); (try clear hk); (try clear hi)) | ((with_reducible refine gate_callee (f := 13) rfl ?_); refine goesL_ (some 97) rfl rfl Tryz.func13 (by kernel_rfl) rfl #[.string ((t269.extract 0 ((ji33) : Int).toNat) ++ t271)] rfl (by (try simp only [List.map_toArray, List.map_cons, List.map_nil]); first | done | (simp only [hji33]; rfl) | rfl | (simp only [List.length_drop, List.length_take]; rfl)) ?_; (with_reducible refine (broadsheetref19_Decode.calls kj15 ((t269.extract 0 ((ji33) : Int).toNat) ++ t271) t276 t277 t278 _ A38.out).mono ?_); rintro e w61 ⟨rfl, hb⟩; refine ⟨_, rfl, ?_⟩; have n0_ := Aside0.mk (below_step (by repeat (first | (with_reducible first | exact HB.out | apply below_alloc | apply pw_below_drewN | apply below_drew1) | exact HB.out)) hb); clear HB; have HB := n0_; clear n0_; (try clear hb); (try clear hb2); (try clear hk); (try clear hi)) | ((with_reducible refine gate_callee (f := 14) rfl ?_); refine goesL_ (some 101) rfl rfl Tryz.func14 (by kernel_rfl) rfl #[] rfl (by (try simp only [List.map_toArray, List.map_cons, List.map_nil]); first | done | rfl | (simp only [List.length_drop, List.length_take]; rfl)) ?_; (with_reducible refine (broadsheetlaw19_awake.calls kj15  false _ ?side1 A39.out).mono ?_); (case side1 => exact Glob.below hGA.out (by repeat (first | (with_reducible first | exact HB.out | apply below_alloc | apply pw_below_drewN | apply below_drew1) | exact HB.out))); rintro e w62 ⟨rfl, hb⟩; refine ⟨_, rfl, ?_⟩; have n0_ := Aside0.mk (below_step (by repeat (first | (with_reducible first | exact HB.out | apply below_alloc | apply pw_below_drewN | apply below_drew1) | exact HB.out)) hb); clear HB; have HB := n0_; clear n0_; (try clear hb); (try clear hb2); (try clear hk); (try clear hi)))
                                go_ret
                                exact ⟨by first | rfl | (simp [errW_none, errW_some, bne_nil_] <;> rfl) | (simp only [← hji3, ← hji23, ← hji33]; first | rfl | (simp [errW_none, errW_some, bne_nil_] <;> rfl)) | (simp [*, errW_none, errW_some] <;> rfl), by repeat (first | (with_reducible first | exact HB.out | apply below_alloc | apply pw_below_drewN | apply below_drew1) | exact HB.out)⟩
                            · rw [if_neg c36] at H
                              exact absurd H (by simp)
                          · rw [if_neg c35] at H
                            exact absurd H (by simp)
                        · rw [if_neg c34] at H
                          exact absurd H (by simp)
                    · rw [if_neg c25] at H
                      exact absurd H (by simp)
                  · rw [if_neg c24] at H
                    exact absurd H (by simp)
    · rw [if_neg c5] at H
      exact absurd H (by simp)
  · rw [if_neg c4] at H
    exact absurd H (by simp)

/-- THE ONE PURE STATEMENT of broadsheetlaw19_ChunkLong: yours. -/
def broadsheetlaw19_ChunkLong.Pure : Prop := ∀ (a0 : Int) (a1 : Int), (Lit.int .u8 a0).wf = true → (Lit.int .u16 a1).wf = true → ∃ k, broadsheetlaw19_ChunkLong.f k a0 a1 = some true
theorem broadsheetlaw19_ChunkLong.walk (P : broadsheetlaw19_ChunkLong.Pure) (a0 : Int) (a1 : Int) (w : World) (hG : Glob w) (w0 : (Lit.int .u8 a0).wf = true) (w1 : (Lit.int .u16 a1).wf = true) :
    Calls Tryz.prog 3 #[.int .u8 a0, .int .u16 a1] w fun e w' => e = .returned (.bool true) ∧ Below w.heap.size w w' := by
  obtain ⟨k, h⟩ := P a0 a1 w0 w1
  refine (broadsheetlaw19_ChunkLong.calls k a0 a1 true w hG h).mono ?_
  rintro e w' ⟨rfl, hd⟩
  exact ⟨rfl, hd⟩

end Go.Proofs.YteonhdfjfjpbjaaGreatDoor.P

/- SpLong -/
namespace Go.Proofs.YteonhdfjfjpbjaaGreatDoor.Sp
open Go Go.RowKit Go.Proofs.YteonhdfjfjpbjaaGreatDoorW.PrintWords Go.Proofs.YteonhdfjfjpbjaaGreatDoorW.PrintLast Go.Proofs.YteonhdfjfjpbjaaGreatDoor.O Go.Proofs.YteonhdfjfjpbjaaGreatDoor.P
set_option linter.unusedVariables false
theorem long_end (s : L) (n : Int) (hs0 : 99990 ≤ s.length) (hs1 : s.length ≤ 100010) (h0 : 50000 ≤ n) (h1 : n < 90000) (k : Nat) (hk : 100000000 ≤ k) :
    ((chunk_Encode.f k (mk s) n).bind fun bt265 => ((broadsheetref19_Encode.f k (mk s) n).bind fun bt267 => (if bt265.1.toList = bt267.1.toList then (broadsheetlaw19_ChunkLong.j1 k (mk s) n (bt265.2 != bt267.2)) else (broadsheetlaw19_ChunkLong.j1 k (mk s) n true)))) = some true := by
  rw [encodeF s n k (by omega), rencodeF s n k (by omega)]
  simp only [Option.bind_some, if_true, bne_self_eq_false]
  obtain ⟨k', rfl⟩ : ∃ k', k = k' + 1 := ⟨k - 1, by omega⟩
  obtain ⟨m, rfl⟩ := Int.eq_ofNat_of_zero_le (show 0 ≤ n by omega)
  rw [broadsheetlaw19_ChunkLong.j1, if_neg (by decide), if_pos (by omega), if_pos (by rw [mk_size]; omega)]
  simp only [Int.toNat_natCast, ext_to, ext_from]
  rw [encodeF (s.take m) m k' (by rw [List.length_take]; omega), encodeF (s.drop m) 99990 k' (by rw [List.length_drop]; omega)]
  have e1 : encR (s.take m) ((m : Nat) : Int) = (enc (s.take m) m, 0) := by unfold encR; rw [if_neg (by omega), if_neg (by rw [List.length_take]; omega)]; rfl
  have e2 : encR (s.drop m) 99990 = (enc (s.drop m) 99990, 0) := by unfold encR; rw [if_neg (by decide), if_neg (by rw [List.length_drop]; omega)]; rfl
  rw [e1, e2]
  simp only [Option.bind_some]
  obtain ⟨a1, a2, a3⟩ := enc_len (s.take m) m (by omega) (by rw [List.length_take]; omega)
  obtain ⟨b1, b2, b3⟩ := enc_len (s.drop m) 99990 (by omega) (by rw [List.length_drop]; omega)
  rw [List.length_take] at a1 a3
  rw [List.length_drop] at b1 b3
  have hw : wrap64 ((((mk (enc (s.take m) m)).size : Nat) : Int) - 5) = (((enc (s.take m) m).length - 5 : Nat) : Int) := by rw [mk_size, wrap_id (by omega) (by omega)]; omega
  rw [if_neg (by rw [mk_size]; omega), hw, if_pos (by omega), if_pos (by rw [mk_size]; omega)]
  simp only [Int.toNat_natCast, ext_to]
  rw [if_pos (by rw [mk_size, mk_size, List.length_take]; omega), mk_append]
  rw [decodeF _ _ (by rw [List.length_append, List.length_take]; omega) (by rw [List.length_append, List.length_take]; omega), rdecodeF _ _ (by rw [List.length_append, List.length_take]; omega) (by rw [List.length_append, List.length_take]; omega), awake19 _ (by omega)]
  simp
theorem strNums_mk (l : List Int) : strOfNums l = mk (l.map fun n => UInt8.ofNat n.toNat) := rfl
theorem long_l0 (x1 : Int) (h0 : 0 ≤ x1) (h1 : x1 ≤ 65535) : ∀ (d k i : Nat) (l : List Int), i + d = l.length → 100000000 + d < k → 99990 ≤ l.length → l.length ≤ 100010 → broadsheetlaw19_ChunkLong.l0 k x1 l i = some true := by
  intro d
  induction d with
  | zero =>
    intro k i l hi hk hl0 hl1
    obtain ⟨k, rfl⟩ : ∃ k', k = k' + 1 := ⟨k - 1, by omega⟩
    have hm : Int.tmod x1 40000 = x1 % 40000 := Int.tmod_eq_emod_of_nonneg h0
    rw [broadsheetlaw19_ChunkLong.l0, if_neg (by omega), strNums_mk, wrap_id (x := x1) (by omega) (by omega), hm, wrap_id (by omega) (by omega)]
    exact long_end _ _ (by rw [List.length_map]; omega) (by rw [List.length_map]; omega) (by omega) (by omega) k (by omega)
  | succ d ih =>
    intro k i l hi hk hl0 hl1
    obtain ⟨k, rfl⟩ : ∃ k', k = k' + 1 := ⟨k - 1, by omega⟩
    rw [broadsheetlaw19_ChunkLong.l0, if_pos (by omega), if_pos (by omega), w1 i (by omega)]
    exact ih k (i + 1) _ (by rw [List.length_set]; omega) (by omega) (by rw [List.length_set]; omega) (by rw [List.length_set]; omega)
theorem long_all (a b : Int) (ha : (Lit.int .u8 a).wf = true) (hb : (Lit.int .u16 b).wf = true) : ∃ k, broadsheetlaw19_ChunkLong.f k a b = some true := by
  have ga := wf_u8 ha
  have gb := wf_u16 hb
  refine ⟨200000000, ?_⟩
  have hm : Int.tmod a 21 = a % 21 := Int.tmod_eq_emod_of_nonneg ga.1
  unfold broadsheetlaw19_ChunkLong.f
  rw [wrap_id (x := a) (by omega) (by omega), hm, wrap_id (by omega) (by omega), if_pos (by omega), if_pos (by omega)]
  have hl : (List.replicate (99990 + a % 21).toNat (0 : Int)).length = (99990 + a % 21).toNat := List.length_replicate
  exact long_l0 b gb.1 gb.2 (99990 + a % 21).toNat _ 0 _ (by rw [hl]; omega) (by omega) (by rw [hl]; omega) (by rw [hl]; omega)
end Go.Proofs.YteonhdfjfjpbjaaGreatDoor.Sp
