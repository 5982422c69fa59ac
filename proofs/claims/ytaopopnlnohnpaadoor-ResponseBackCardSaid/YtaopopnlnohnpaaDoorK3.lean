/- Texts of this seat, joined: lemmas and walks that its statements' proofs use. -/
import Derived.Test.YtaopopnlnohnpaaDoorK1
import Derived.Test.YtaopopnlnohnpaaDoorK2
import Derived.Lib.SplitLaws
import Derived.Lib.AtoiAllCases
import Derived.Deep.Slices
import Derived.LaidLaws
import Derived.MakeChecks
import Derived.HandedShaped
import Derived.Lib.LaidU8
import Derived.Lib.LaidTab
import Derived.WalkKit
import Derived.ProofKit
import Derived.Deep.SlicePairs
import Derived.SizedLaws
import Derived.Lib.SmallJoins
import Derived.Test.YtaopopnlnohnpaaDoorRows
/- Px15 -/
namespace Go.Proofs.YtaopopnlnohnpaaDoor.P
open Go.Proofs.YtaopopnlnohnpaaDoor.B
open Go.RowKit Go.Proofs.YtaopopnlnohnpaaDoorW.PrintWords Go.Proofs.YtaopopnlnohnpaaDoorW.PrintLast Go.Proofs.YtaopopnlnohnpaaDoorW.PrintMore
attribute [local go_sem] str_leq str_gtr str_geq max2_int min2_int max_two min_two max_three min_three max_four min_four
set_option linter.unusedVariables false
set_option linter.unusedSimpArgs false
open Go.Proofs.YtaopopnlnohnpaaDoor.O
mutual
def broadsheetlaw21_ResponseBack.j0 : Nat → Bool → Int → List (S35) → ByteArray → Option (Bool)
  | 0, _, _, _, _ => none
  | k + 1, x5, x197000, x197001, x197002 => (response_Print.f k x197000 x197001 x197002).bind fun bt204 => (if bt204.2 = 0 then ((response_Parse.f k bt204.1).bind fun bt206 => (if bt206.2.2.2 = 0 then (if bt206.1 = x197000 then (if bt206.2.2.1.toList = x197002.toList then (broadsheetlaw21_ResponseBack.j1 k x5 ((bt206.2.1.length : Int) != (x197001.length : Int)) x197000 x197001 x197002 bt206.1 bt206.2.1 bt206.2.2.1) else (broadsheetlaw21_ResponseBack.j1 k x5 true x197000 x197001 x197002 bt206.1 bt206.2.1 bt206.2.2.1)) else (broadsheetlaw21_ResponseBack.j1 k x5 true x197000 x197001 x197002 bt206.1 bt206.2.1 bt206.2.2.1)) else (broadsheetlaw21_ResponseBack.j1 k x5 true x197000 x197001 x197002 bt206.1 bt206.2.1 bt206.2.2.1))) else (if x5 = true then (some (bt204.1.toList == ([] : List UInt8))) else (some false)))
def broadsheetlaw21_ResponseBack.j1 : Nat → Bool → Bool → Int → List (S35) → ByteArray → Int → List (S35) → ByteArray → Option (Bool)
  | 0, _, _, _, _, _, _, _, _ => none
  | k + 1, x5, x74, x197000, x197001, x197002, x213000, x213001, x213002 => if x74 = true then (some false) else (broadsheetlaw21_ResponseBack.l0 k x5 0 x197000 x197001 x197002 x213000 x213001 x213002)
def broadsheetlaw21_ResponseBack.l0 : Nat → Bool → Int → Int → List (S35) → ByteArray → Int → List (S35) → ByteArray → Option (Bool)
  | 0, _, _, _, _, _, _, _, _ => none
  | k + 1, x5, x11, x197000, x197001, x197002, x213000, x213001, x213002 => if x11 < (x213001.length : Int) then (if 0 ≤ x11 then (if x11 < (x197001.length : Int) then ((broadsheetref07_Lower.f k ((rd_T35 x197001 x11).f0)).bind fun t215 => (if ((rd_T35 x213001 x11).f0).toList = t215.toList then (if ((rd_T35 x213001 x11).f1).toList = ((rd_T35 x197001 x11).f1).toList then (broadsheetlaw21_ResponseBack.l0 k x5 (wrap64 (x11 + 1)) x197000 x197001 x197002 x213000 x213001 x213002) else (some false)) else (some false))) else (none)) else (none)) else (some x5)
end
def broadsheetlaw21_ResponseBack.f (k : Nat) (a0_0 : Int) (l0_1 : List (S35)) (a0_2 : ByteArray) (a1 : Int) : Option (Bool) := (broadsheetlaw21_awake.f k).bind fun t197 => (if t197 = true then ((broadsheetlaw21_few.f k a0_0 l0_1 a0_2).bind fun t198 => (if t198 = true then ((response_Reason.f a0_0).bind fun t199 => (if t199.toList = ([] : List UInt8) then ((some (([200, 201, 204, 304, 400, 404, 405, 406, 409, 412, 413, 415, 431, 500, 503, 507] : List Int) : List Int)).bind fun y200 => (if (y200.length : Int) = 0 then (none) else (if 0 ≤ (Int.tmod (wrap64 (a1)) (y200.length : Int)) then (if (Int.tmod (wrap64 (a1)) (y200.length : Int)) < (y200.length : Int) then (broadsheetlaw21_ResponseBack.j0 k t197 (rd y200 (Int.tmod (wrap64 (a1)) (y200.length : Int))) l0_1 a0_2) else (none)) else (none)))) else (broadsheetlaw21_ResponseBack.j0 k t197 a0_0 l0_1 a0_2))) else (some t197))) else (some false))
def broadsheetlaw21_ResponseBack.T18 : Bool × List (List Nat × List Nat) := (true, [([], []), ([0], [0]), ([], []), ([1, 2], [1, 2]), ([3], [3]), ([4], [4]), ([], []), ([6], [6]), ([], []), ([7, 8], [7, 8]), ([9], [9]), ([10], [10]), ([11], [11]), ([5, 12], [5, 12]), ([13, 12], [13]), ([14], [14]), ([15, 14], [14, 15]), ([14], [14]), ([16, 17, 14], [14, 16, 17]), ([18, 14], [14, 18]), ([19, 14], [14, 19]), ([14], [14]), ([21, 14], [14, 21]), ([14], [14]), ([22, 23, 14], [14, 22, 23]), ([24, 14], [14, 24]), ([25, 14], [14, 25]), ([20, 26, 14], [14, 20, 26]), ([14, 27], [14, 27])])
def broadsheetlaw21_ResponseBack.B18 : List Nat := [0, 1, 0, 7, 15, 31, 0, 64, 0, 448, 960, 1984, 4032, 8191, 16383, 32767, 65535, 32767, 262143, 524287, 1048575, 32767, 2129919, 32767, 14712831, 31490047, 65044479, 134217727, 268435455]
theorem broadsheetlaw21_ResponseBack.tab18 : rtab .any (opsOf Tryd.f3 18) = broadsheetlaw21_ResponseBack.T18 := by kernel_rfl
theorem broadsheetlaw21_ResponseBack.bits18 : waitsOk broadsheetlaw21_ResponseBack.T18.2 broadsheetlaw21_ResponseBack.B18 = true := by kernel_rfl
set_option maxHeartbeats 8000000 in
set_option maxRecDepth 100000 in
theorem broadsheetlaw21_ResponseBack.calls (k : Nat) (a0_0 : Int) (A0_1 : Option Addr) (c0_1 : Nat) (l0_1 : List (S35)) (a0_2 : ByteArray) (a1 : Int) (r : Bool) (w : World) (hr0_1 : Kd.C k35 w A0_1 l0_1.length l0_1) (hc0_1 : l0_1.length ≤ c0_1) (hG : Glob w) (h : broadsheetlaw21_ResponseBack.f k a0_0 l0_1 a0_2 a1 = some r) (hr : r = true) :
  Calls Tryd.prog 3 #[.agg #[.int .i64 a0_0, .slice A0_1 l0_1.length c0_1, .string a0_2], .int .u8 a1] w fun e w' => e = .returned (.bool r) ∧ Below w.heap.size w w' := by
 have hu24 := Tryd.underlying24
 have HR0_1 := Aside0.mk hr0_1
 have HC0_1 := Aside0.mk hc0_1
 clear hr0_1 hc0_1
 have HB := Aside0.mk (Below.refl w.heap.size w)
 have hGA := Aside0.mk hG
 clear hG
 have H : ((broadsheetlaw21_awake.f k).bind fun t197 => (if t197 = true then ((broadsheetlaw21_few.f k a0_0 l0_1 a0_2).bind fun t198 => (if t198 = true then ((response_Reason.f a0_0).bind fun t199 => (if t199.toList = ([] : List UInt8) then ((some (([200, 201, 204, 304, 400, 404, 405, 406, 409, 412, 413, 415, 431, 500, 503, 507] : List Int) : List Int)).bind fun y200 => (if (y200.length : Int) = 0 then (none) else (if 0 ≤ (Int.tmod (wrap64 (a1)) (y200.length : Int)) then (if (Int.tmod (wrap64 (a1)) (y200.length : Int)) < (y200.length : Int) then (broadsheetlaw21_ResponseBack.j0 k t197 (rd y200 (Int.tmod (wrap64 (a1)) (y200.length : Int))) l0_1 a0_2) else (none)) else (none)))) else (broadsheetlaw21_ResponseBack.j0 k t197 a0_0 l0_1 a0_2))) else (some t197))) else (some false))) = some r := h
 clear h
 replace H := Option.bind_eq_some_iff.mp H
 obtain ⟨t197, A30, H⟩ := H
 replace H : (if t197 = true then ((broadsheetlaw21_few.f k a0_0 l0_1 a0_2).bind fun t198 => (if t198 = true then ((response_Reason.f a0_0).bind fun t199 => (if t199.toList = ([] : List UInt8) then ((some (([200, 201, 204, 304, 400, 404, 405, 406, 409, 412, 413, 415, 431, 500, 503, 507] : List Int) : List Int)).bind fun y200 => (if (y200.length : Int) = 0 then (none) else (if 0 ≤ (Int.tmod (wrap64 (a1)) (y200.length : Int)) then (if (Int.tmod (wrap64 (a1)) (y200.length : Int)) < (y200.length : Int) then (broadsheetlaw21_ResponseBack.j0 k t197 (rd y200 (Int.tmod (wrap64 (a1)) (y200.length : Int))) l0_1 a0_2) else (none)) else (none)))) else (broadsheetlaw21_ResponseBack.j0 k t197 a0_0 l0_1 a0_2))) else (some t197))) else (some false)) = some r := H
 have A3 := Aside0.mk A30
 clear A30
 by_cases c4 : t197 = true
 ·subst c4
  replace H : ((broadsheetlaw21_few.f k a0_0 l0_1 a0_2).bind fun t198 => (if t198 = true then ((response_Reason.f a0_0).bind fun t199 => (if t199.toList = ([] : List UInt8) then ((some (([200, 201, 204, 304, 400, 404, 405, 406, 409, 412, 413, 415, 431, 500, 503, 507] : List Int) : List Int)).bind fun y200 => (if (y200.length : Int) = 0 then (none) else (if 0 ≤ (Int.tmod (wrap64 (a1)) (y200.length : Int)) then (if (Int.tmod (wrap64 (a1)) (y200.length : Int)) < (y200.length : Int) then (broadsheetlaw21_ResponseBack.j0 k true (rd y200 (Int.tmod (wrap64 (a1)) (y200.length : Int))) l0_1 a0_2) else (none)) else (none)))) else (broadsheetlaw21_ResponseBack.j0 k true a0_0 l0_1 a0_2))) else (some true))) = some r := by rw [if_pos rfl] at H; exact H
  replace H := Option.bind_eq_some_iff.mp H
  obtain ⟨t198, A50, H⟩ := H
  replace H : (if t198 = true then ((response_Reason.f a0_0).bind fun t199 => (if t199.toList = ([] : List UInt8) then ((some (([200, 201, 204, 304, 400, 404, 405, 406, 409, 412, 413, 415, 431, 500, 503, 507] : List Int) : List Int)).bind fun y200 => (if (y200.length : Int) = 0 then (none) else (if 0 ≤ (Int.tmod (wrap64 (a1)) (y200.length : Int)) then (if (Int.tmod (wrap64 (a1)) (y200.length : Int)) < (y200.length : Int) then (broadsheetlaw21_ResponseBack.j0 k true (rd y200 (Int.tmod (wrap64 (a1)) (y200.length : Int))) l0_1 a0_2) else (none)) else (none)))) else (broadsheetlaw21_ResponseBack.j0 k true a0_0 l0_1 a0_2))) else (some true)) = some r := H
  have A5 := Aside0.mk A50
  clear A50
  by_cases c6 : t198 = true
  ·subst c6
   replace H : ((response_Reason.f a0_0).bind fun t199 => (if t199.toList = ([] : List UInt8) then ((some (([200, 201, 204, 304, 400, 404, 405, 406, 409, 412, 413, 415, 431, 500, 503, 507] : List Int) : List Int)).bind fun y200 => (if (y200.length : Int) = 0 then (none) else (if 0 ≤ (Int.tmod (wrap64 (a1)) (y200.length : Int)) then (if (Int.tmod (wrap64 (a1)) (y200.length : Int)) < (y200.length : Int) then (broadsheetlaw21_ResponseBack.j0 k true (rd y200 (Int.tmod (wrap64 (a1)) (y200.length : Int))) l0_1 a0_2) else (none)) else (none)))) else (broadsheetlaw21_ResponseBack.j0 k true a0_0 l0_1 a0_2))) = some r := by rw [if_pos rfl] at H; exact H
   replace H := Option.bind_eq_some_iff.mp H
   obtain ⟨t199, A70, H⟩ := H
   replace H : (if t199.toList = ([] : List UInt8) then ((some (([200, 201, 204, 304, 400, 404, 405, 406, 409, 412, 413, 415, 431, 500, 503, 507] : List Int) : List Int)).bind fun y200 => (if (y200.length : Int) = 0 then (none) else (if 0 ≤ (Int.tmod (wrap64 (a1)) (y200.length : Int)) then (if (Int.tmod (wrap64 (a1)) (y200.length : Int)) < (y200.length : Int) then (broadsheetlaw21_ResponseBack.j0 k true (rd y200 (Int.tmod (wrap64 (a1)) (y200.length : Int))) l0_1 a0_2) else (none)) else (none)))) else (broadsheetlaw21_ResponseBack.j0 k true a0_0 l0_1 a0_2)) = some r := H
   have A7 := Aside0.mk A70
   clear A70
   have HC8 := Aside0.mk H
   clear H
   go_enter Tryd.func3, Tryd.ntmps3
   go_upto_if 22 with (first | ((with_reducible refine gate_dst (N := 2) rfl ?_); (try (refine gate_guard (by rfl) ?_; dsimp only)); refine box_event ?hg (N := 2) ?hd (cs := #[.int .i64 a0_0, .slice A0_1 l0_1.length c0_1, .string a0_2]) (t := 24) ?hr ?_; (case hd => rfl); (case hg => rfl); (case hr => first | (go_simp; done) | (go_simp; rfl)); intro gb196 hg w9 hbox hb; have n0_ := Aside0.mk (below_step zb0 hb); have n1_ := Aside0.mk (hbox); have n2_ := Aside0.mk ((by rw [hg]; exact (below_size zb0) : w.heap.size ≤ gb196)); have n3_ := Aside0.mk ((by rw [hg]; exact (below_size zb0) : w.heap.size ≤ gb196)); clear HB; have HB := n0_; have BK196 := n1_; have GW196 := n2_; have GE196 := n3_; clear n0_ n1_ n2_ n3_; clear hb hbox hg) | ((with_reducible refine gate_callee (f := 5) rfl ?_); refine goesL_ (some 12) rfl rfl Tryd.func5 zb11 rfl #[] rfl zb1 ?_; (with_reducible refine (broadsheetlaw21_awake.calls k  true _ ?side1 A3.out (by first | rfl | exact hr)).mono ?_); (case side1 => exact Glob.below hGA.out zb7); rintro e w10 ⟨rfl, hb⟩; refine ⟨_, rfl, ?_⟩; have n0_ := Aside0.mk (blk_below (g := gb196) (o := .cells #[.int .i64 a0_0, .slice A0_1 l0_1.length c0_1, .string a0_2] 24 (0, 0)) zb15 hb); have n1_ := Aside0.mk (below_step zb7 hb); clear BK196; clear HB; have BK196 := n0_; have HB := n1_; clear n0_ n1_; (try clear hb); (try clear hb2); (try clear hk); (try clear hi); have hcz11_0 : w10.cell? ⟨gb196, 0, none⟩ = some (.int .i64 a0_0) := (blk_cell BK196.out 0).trans rfl; have hcz11_1 : w10.cell? ⟨gb196, 1, none⟩ = some (.slice A0_1 l0_1.length c0_1) := (blk_cell BK196.out 1).trans rfl; have hcz11_2 : w10.cell? ⟨gb196, 2, none⟩ = some (.string a0_2) := (blk_cell BK196.out 2).trans rfl; have hfz11_0 := blk_frozen BK196.out 0; have hfz11_1 := blk_frozen BK196.out 1; have hfz11_2 := blk_frozen BK196.out 2) | ((with_reducible refine gate_callee (f := 6) rfl ?_); refine goesL_ (some 16) rfl rfl Tryd.func6 zb11 rfl #[.agg #[.int .i64 a0_0, .slice A0_1 l0_1.length c0_1, .string a0_2]] rfl zb1 ?_; (with_reducible refine (broadsheetlaw21_few.calls k a0_0 _ _ l0_1 a0_2 true _ ?side1 ?side2 A5.out).mono ?_); (case side1 => repeat (first | exact (Kd.C_below HR0_1.out HB.out) | (with_reducible refine Kd.C_alloc ?_ _) | (with_reducible refine Kd.C_drewN ?_ _) | (with_reducible refine Kd.C_drew ?_))); (case side2 => exact HC0_1.out); rintro e w12 ⟨rfl, hb⟩; refine ⟨_, rfl, ?_⟩; have n0_ := Aside0.mk (blk_below (g := gb196) (o := .cells #[.int .i64 a0_0, .slice A0_1 l0_1.length c0_1, .string a0_2] 24 (0, 0)) zb15 hb); have n1_ := Aside0.mk (below_step zb7 hb); clear BK196; clear HB; have BK196 := n0_; have HB := n1_; clear n0_ n1_; (try clear hb); (try clear hb2); (try clear hk); (try clear hi); have hcz13_0 : w12.cell? ⟨gb196, 0, none⟩ = some (.int .i64 a0_0) := (blk_cell BK196.out 0).trans rfl; have hcz13_1 : w12.cell? ⟨gb196, 1, none⟩ = some (.slice A0_1 l0_1.length c0_1) := (blk_cell BK196.out 1).trans rfl; have hcz13_2 : w12.cell? ⟨gb196, 2, none⟩ = some (.string a0_2) := (blk_cell BK196.out 2).trans rfl; have hfz13_0 := blk_frozen BK196.out 0; have hfz13_1 := blk_frozen BK196.out 1; have hfz13_2 := blk_frozen BK196.out 2) | ((with_reducible refine gate_callee (f := 7) rfl ?_); refine goesL_ (some 21) rfl rfl Tryd.func7 zb11 rfl #[.int .i64 a0_0] rfl zb1 ?_; (with_reducible refine (response_Reason.calls a0_0 t199 _ A7.out).mono ?_); rintro e w14 ⟨rfl, hb⟩; refine ⟨_, rfl, ?_⟩; have n0_ := Aside0.mk (blk_below (g := gb196) (o := .cells #[.int .i64 a0_0, .slice A0_1 l0_1.length c0_1, .string a0_2] 24 (0, 0)) zb15 hb); have n1_ := Aside0.mk (below_step zb7 hb); clear BK196; clear HB; have BK196 := n0_; have HB := n1_; clear n0_ n1_; (try clear hb); (try clear hb2); (try clear hk); (try clear hi)))
   (try simp only [Act.put, List.setIfInBounds_toArray, List.set_cons_zero, List.set_cons_succ])
   go_cut [] (fun wc => ∃ (kq : Nat) (x197000_7 : Int), Aside0 (broadsheetlaw21_ResponseBack.j0 kq true x197000_7 l0_1 a0_2 = some r) ∧ Aside0 (kq ≤ k) ∧ Aside0 (wc.heap[gb196]? = some (.cells #[.int .i64 x197000_7, (.slice A0_1 l0_1.length c0_1), .string a0_2] 24 (0, 0))) ∧ Aside0 (Below w.heap.size w wc))
   case first =>
    have H := HC8.out
    clear HC8
    by_cases c15 : t199.toList = ([] : List UInt8)
    ·rw [if_pos c15] at H
     have c15b0 : (t199.toList == ([] : List UInt8)) = true := beq_iff_eq.mpr c15
     have c15b1 : (t199.toList != ([] : List UInt8)) = false := bne_eq_false_iff_eq.mpr c15
     have c15e : t199.toList.isEmpty = true := List.isEmpty_iff.2 c15
     clear c15
     (first | rw [c15b0] | (simp only [i64_w, i32_w]; rw [c15b0]) | skip)
     (try rw [c15e])
     obtain ⟨y200, hy200⟩ : ∃ y_ : List Int, y_ = (([200, 201, 204, 304, 400, 404, 405, 406, 409, 412, 413, 415, 431, 500, 503, 507] : List Int)) := ⟨_, rfl⟩
     replace H : (if (y200.length : Int) = 0 then (none) else (if 0 ≤ (Int.tmod (wrap64 (a1)) (y200.length : Int)) then (if (Int.tmod (wrap64 (a1)) (y200.length : Int)) < (y200.length : Int) then (broadsheetlaw21_ResponseBack.j0 k true (rd y200 (Int.tmod (wrap64 (a1)) (y200.length : Int))) l0_1 a0_2) else (none)) else (none))) = some r := by first | (rw [hy200]; with_reducible exact H) | (have H2_ := (Option.bind_some _ _).symm.trans H; rw [hy200]; with_reducible exact H2_) | (have H2_ := (Option.bind_some _ _).symm.trans H; with_reducible exact H2_) | with_reducible exact H | (rw [hy200]; exact H) | exact H
     have Ny200 := Aside0.mk hy200
     clear hy200
     by_cases c16 : (y200.length : Int) = 0
     ·rw [if_pos c16] at H
      exact absurd H (by simp)
     ·rw [if_neg c16] at H
      have c16b0 : ((y200.length : Int) == 0) = false := beq_eq_false_iff_ne.mpr c16
      have c16b1 : ((y200.length : Int) != 0) = true := bne_iff_ne.mpr c16
      have c16b2 : ¬ (y200 = []) := fun h_ => c16 (by rw [h_]; rfl)
      obtain ⟨ji17, hji17⟩ : ∃ j_ : Int, (Int.tmod (wrap64 (a1)) (y200.length : Int)) = j_ := ⟨_, rfl⟩
      replace H : (if 0 ≤ (ji17) then (if (ji17) < (y200.length : Int) then (broadsheetlaw21_ResponseBack.j0 k true (rd y200 (ji17)) l0_1 a0_2) else (none)) else (none)) = some r := by first | (rw [hji17] at H; exact H) | (simp only [hji17] at H ⊢; exact H)
      by_cases c18 : 0 ≤ (ji17)
      ·rw [if_pos c18] at H
       have c18b0 : decide (0 ≤ (ji17)) = true := decide_eq_true c18
       clear c18
       by_cases c19 : (ji17) < (y200.length : Int)
       ·rw [if_pos c19] at H
        have c19b0 : decide ((ji17) < (y200.length : Int)) = true := decide_eq_true c19
        clear c19
        have H' := Aside0.mk H
        clear H
        go_wp2_with (first | ((with_reducible refine gate_dst (N := 23) rfl ?_); (try (refine gate_guard (by rfl) ?_; dsimp only)); refine Kd.R_lit (Kd.int .i64) _ 3 ?hg (N := 23) ?hd (xs := ([200, 201, 204, 304, 400, 404, 405, 406, 409, 412, 413, 415, 431, 500, 503, 507] : List Int)) (inner := [.int .i64 200, .int .i64 201, .int .i64 204, .int .i64 304, .int .i64 400, .int .i64 404, .int .i64 405, .int .i64 406, .int .i64 409, .int .i64 412, .int .i64 413, .int .i64 415, .int .i64 431, .int .i64 500, .int .i64 503, .int .i64 507]) (ok := fun _ => True) (okp := fun _ => True) ?hr ?hp (fun _ hk => hk) trivial (Below.refl _ _) (Nat.le_refl _) (by simp) ?_; (case hd => rfl); (case hg => rfl); (case hr => first | (go_simp; done) | (go_simp; rfl)); (case hp => exact (Reps.one (show Kd.M (Kd.int .i64) _ _ _ 200 [.int .i64 200] from rfl) (Reps.one (show Kd.M (Kd.int .i64) _ _ _ 201 [.int .i64 201] from rfl) (Reps.one (show Kd.M (Kd.int .i64) _ _ _ 204 [.int .i64 204] from rfl) (Reps.one (show Kd.M (Kd.int .i64) _ _ _ 304 [.int .i64 304] from rfl) (Reps.one (show Kd.M (Kd.int .i64) _ _ _ 400 [.int .i64 400] from rfl) (Reps.one (show Kd.M (Kd.int .i64) _ _ _ 404 [.int .i64 404] from rfl) (Reps.one (show Kd.M (Kd.int .i64) _ _ _ 405 [.int .i64 405] from rfl) (Reps.one (show Kd.M (Kd.int .i64) _ _ _ 406 [.int .i64 406] from rfl) (Reps.one (show Kd.M (Kd.int .i64) _ _ _ 409 [.int .i64 409] from rfl) (Reps.one (show Kd.M (Kd.int .i64) _ _ _ 412 [.int .i64 412] from rfl) (Reps.one (show Kd.M (Kd.int .i64) _ _ _ 413 [.int .i64 413] from rfl) (Reps.one (show Kd.M (Kd.int .i64) _ _ _ 415 [.int .i64 415] from rfl) (Reps.one (show Kd.M (Kd.int .i64) _ _ _ 431 [.int .i64 431] from rfl) (Reps.one (show Kd.M (Kd.int .i64) _ _ _ 500 [.int .i64 500] from rfl) (Reps.one (show Kd.M (Kd.int .i64) _ _ _ 503 [.int .i64 503] from rfl) (Reps.one (show Kd.M (Kd.int .i64) _ _ _ 507 [.int .i64 507] from rfl) (Reps.none _ _)))))))))))))))))); intro v201 w20 ho21 hb hg_ hnew_; clear hg_ hnew_; (first | rw [← Ny200.out] at ho21 | (simp only [Int.reduceToNat] at ho21; rw [← Ny200.out] at ho21)); have n0_ := Aside0.mk (Kd.R_lower ho21 (below_size zb7)); have n1_ := Aside0.mk (blk_below (g := gb196) (o := .cells #[.int .i64 a0_0, .slice A0_1 l0_1.length c0_1, .string a0_2] 24 (0, 0)) zb15 hb); have n2_ := Aside0.mk (below_step zb7 hb); clear BK196; clear HB; have HO202 := n0_; have BK196 := n1_; have HB := n2_; clear n0_ n1_ n2_; clear hb ho21; obtain ⟨Ao22, co22, eo22⟩ := Kd.R_slice HO202.out; subst eo22; have p203 : 0 ≤ ((ji17) : Int) := of_decide_eq_true zb12; have q203 : (ji17) < (y200.length : Int) := of_decide_eq_true zb12; obtain ⟨ad203, e203, hx203_0⟩ := Kd.at_int (Kd.R_reads' HO202.out).2.2 (ji17) p203 q203; cases e203; replace p203 := eq_true p203; replace q203 := eq_true q203; have hcz23_0 : w20.cell? ⟨gb196, 0, none⟩ = some (.int .i64 a0_0) := (blk_cell BK196.out 0).trans rfl; have hcz23_1 : w20.cell? ⟨gb196, 1, none⟩ = some (.slice A0_1 l0_1.length c0_1) := (blk_cell BK196.out 1).trans rfl; have hcz23_2 : w20.cell? ⟨gb196, 2, none⟩ = some (.string a0_2) := (blk_cell BK196.out 2).trans rfl; have hfz23_0 := blk_frozen BK196.out 0; have hfz23_1 := blk_frozen BK196.out 1; have hfz23_2 := blk_frozen BK196.out 2))
        go_meet
        case rel => exact ⟨_, (rd y200 (ji17)), H', ⟨by first | omega | exact Nat.le_refl _⟩, ⟨by (with_reducible repeat (first | refine blk_drewN ?_ _ | refine blk_drew ?_ | refine blk_alloc ?_ _)); refine blk_put (cs := #[.int .i64 a0_0, .slice A0_1 l0_1.length c0_1, .string a0_2]) ?_ 0 _ rfl; (with_reducible repeat (first | refine blk_drewN ?_ _ | refine blk_drew ?_ | refine blk_alloc ?_ _)); exact BK196.out⟩, ⟨by repeat (first | (with_reducible first | exact HB.out | apply below_alloc | apply pw_below_drewN | apply below_drew1 | refine below_set ?_ GE196.out) | exact HB.out)⟩⟩
       ·rw [if_neg c19] at H
        exact absurd H (by simp)
      ·rw [if_neg c18] at H
       exact absurd H (by simp)
    ·rw [if_neg c15] at H
     have c15b0 : (t199.toList == ([] : List UInt8)) = false := beq_eq_false_iff_ne.mpr c15
     have c15b1 : (t199.toList != ([] : List UInt8)) = true := bne_iff_ne.mpr c15
     (first | rw [c15b0] | (simp only [i64_w, i32_w]; rw [c15b0]) | skip)
     have c15e : t199.toList.isEmpty = false := Bool.eq_false_iff.2 (fun h_ => c15 (List.isEmpty_iff.1 h_))
     (try rw [c15e])
     have H' := Aside0.mk H
     clear H
     go_wp2
     go_meet
     case rel => exact ⟨_, (a0_0), H', ⟨by first | omega | exact Nat.le_refl _⟩, ⟨by (with_reducible repeat (first | refine blk_drewN ?_ _ | refine blk_drew ?_ | refine blk_alloc ?_ _)); exact BK196.out⟩, ⟨by repeat (first | (with_reducible first | exact HB.out | apply below_alloc | apply pw_below_drewN | apply below_drew1 | refine below_set ?_ GE196.out) | exact HB.out)⟩⟩
   case rest =>
    clear HC8
    try clear c1
    try clear p2
    try clear q2
    try clear hx2
    try clear c3
    try clear c4
    try clear c5
    try clear c6
    try clear p6
    try clear c7
    try clear c15
    try clear c15b0
    try clear c15b1
    try clear c16
    try clear c16b0
    try clear c16b1
    try clear c16b2
    try clear c18
    try clear c18b0
    try clear c19
    try clear c19b0
    try clear p20
    try clear q20
    try clear hx20
    try clear hcz11_0
    try clear hcz11_1
    try clear hcz11_2
    try clear hcz13_0
    try clear hcz13_1
    try clear hcz13_2
    try clear hcz23_0
    try clear hcz23_1
    try clear hcz23_2
    try clear hfz11_0
    try clear hfz11_1
    try clear hfz11_2
    try clear hfz13_0
    try clear hfz13_1
    try clear hfz13_2
    try clear hfz23_0
    try clear hfz23_1
    try clear hfz23_2
    try clear hx203_0
    try clear p203
    try clear q203
    obtain ⟨kq, x197000_7, HA, HJ7, BK196, HB⟩ := hcut
    cases kq with
    | zero => exact absurd HA.out (by simp [broadsheetlaw21_ResponseBack.j0])
    | succ kj7 =>
     have H := HA.out
     clear HA
     simp only [broadsheetlaw21_ResponseBack.j0] at H
     replace H := Option.bind_eq_some_iff.mp H
     obtain ⟨⟨t204, t205⟩, A240, H⟩ := H
     replace H : (if t205 = 0 then ((response_Parse.f kj7 t204).bind fun bt206 => (if bt206.2.2.2 = 0 then (if bt206.1 = x197000_7 then (if bt206.2.2.1.toList = a0_2.toList then (broadsheetlaw21_ResponseBack.j1 kj7 true ((bt206.2.1.length : Int) != (l0_1.length : Int)) x197000_7 l0_1 a0_2 bt206.1 bt206.2.1 bt206.2.2.1) else (broadsheetlaw21_ResponseBack.j1 kj7 true true x197000_7 l0_1 a0_2 bt206.1 bt206.2.1 bt206.2.2.1)) else (broadsheetlaw21_ResponseBack.j1 kj7 true true x197000_7 l0_1 a0_2 bt206.1 bt206.2.1 bt206.2.2.1)) else (broadsheetlaw21_ResponseBack.j1 kj7 true true x197000_7 l0_1 a0_2 bt206.1 bt206.2.1 bt206.2.2.1))) else (if true = true then (some (t204.toList == ([] : List UInt8))) else (some false))) = some r := H
     have A24 := Aside0.mk A240
     clear A240
     by_cases c25 : t205 = 0
     ·rw [if_pos c25] at H
      have c25b0 : (t205 == 0) = true := beq_iff_eq.mpr c25
      have c25b1 : (t205 != 0) = false := bne_eq_false_iff_eq.mpr c25
      clear c25
      replace H := Option.bind_eq_some_iff.mp H
      obtain ⟨⟨t206, t207, t210, t211⟩, A260, H⟩ := H
      replace H : (if t211 = 0 then (if t206 = x197000_7 then (if t210.toList = a0_2.toList then (broadsheetlaw21_ResponseBack.j1 kj7 true ((t207.length : Int) != (l0_1.length : Int)) x197000_7 l0_1 a0_2 t206 t207 t210) else (broadsheetlaw21_ResponseBack.j1 kj7 true true x197000_7 l0_1 a0_2 t206 t207 t210)) else (broadsheetlaw21_ResponseBack.j1 kj7 true true x197000_7 l0_1 a0_2 t206 t207 t210)) else (broadsheetlaw21_ResponseBack.j1 kj7 true true x197000_7 l0_1 a0_2 t206 t207 t210)) = some r := H
      have A26 := Aside0.mk A260
      clear A260
      have HC27 := Aside0.mk H
      clear H
      have hcz28_0 : wc.cell? ⟨gb196, 0, none⟩ = some (.int .i64 x197000_7) := (blk_cell BK196.out 0).trans rfl
      have hcz28_1 : wc.cell? ⟨gb196, 1, none⟩ = some (.slice A0_1 l0_1.length c0_1) := (blk_cell BK196.out 1).trans rfl
      have hcz28_2 : wc.cell? ⟨gb196, 2, none⟩ = some (.string a0_2) := (blk_cell BK196.out 2).trans rfl
      have hfz28_0 := blk_frozen BK196.out 0
      have hfz28_1 := blk_frozen BK196.out 1
      have hfz28_2 := blk_frozen BK196.out 2
      go_upto_region 13 with (first | ((with_reducible refine gate_callee (f := 8) rfl ?_); refine goesL_ (some 35) rfl rfl Tryd.func8 zb11 rfl #[.agg #[.int .i64 x197000_7, .slice A0_1 l0_1.length c0_1, .string a0_2]] rfl zb1 ?_; (with_reducible refine (response_Print.calls kj7 x197000_7 _ _ l0_1 a0_2 t204 t205 _ ?side1 ?side2 ?side3 A24.out).mono ?_); (case side1 => repeat (first | exact (Kd.C_below HR0_1.out HB.out) | (with_reducible refine Kd.C_alloc ?_ _) | (with_reducible refine Kd.C_drewN ?_ _) | (with_reducible refine Kd.C_drew ?_))); (case side2 => exact HC0_1.out); (case side3 => exact Glob.below hGA.out zb7); rintro e w29 ⟨rfl, hb⟩; refine ⟨_, rfl, ?_⟩; have n0_ := Aside0.mk (blk_below (g := gb196) (o := .cells #[.int .i64 x197000_7, .slice A0_1 l0_1.length c0_1, .string a0_2] 24 (0, 0)) zb15 hb); have n1_ := Aside0.mk (below_step zb7 hb); clear BK196; clear HB; have BK196 := n0_; have HB := n1_; clear n0_ n1_; (try clear hb); (try clear hb2); (try clear hk); (try clear hi)) | ((with_reducible refine gate_callee (f := 9) rfl ?_); refine goesL_ (some 47) rfl rfl Tryd.func9 zb11 rfl #[.string t204] rfl zb1 ?_; (with_reducible refine (response_Parse.calls kj7 t204 t206 t207 t210 t211 _ ?side1 A26.out).mono ?_); (case side1 => exact Glob.below hGA.out zb7); rintro e w30 ⟨v208, rfl, ho0, hb⟩; refine ⟨_, rfl, ?_⟩; have n0_ := Aside0.mk (Kd.R_lower ho0 (below_size zb7)); have n1_ := Aside0.mk (blk_below (g := gb196) (o := .cells #[.int .i64 x197000_7, .slice A0_1 l0_1.length c0_1, .string a0_2] 24 (0, 0)) zb15 hb); have n2_ := Aside0.mk (below_step zb7 hb); clear BK196; clear HB; have HO209 := n0_; have BK196 := n1_; have HB := n2_; clear n0_ n1_ n2_; (try clear hb); (try clear hb2); (try clear hk); (try clear hi); (try clear ho0)) | ((with_reducible refine gate_dst (N := 9) rfl ?_); (try (refine gate_guard (by rfl) ?_; dsimp only)); refine box_event ?hg (N := 9) ?hd (cs := #[.int .i64 0, .slice none 0 0, .string (⟨#[]⟩ : ByteArray)]) (t := 24) ?hr ?_; (case hd => rfl); (case hg => rfl); (case hr => first | (go_simp; done) | (go_simp; rfl)); intro gb212 hg w31 hbox hb; have n0_ := Aside0.mk (Kd.R_below (by (with_reducible repeat (first | apply Kd.R_alloc | apply Kd.R_drewN | apply Kd.R_drew)); exact HO209.out) hb); have n1_ := Aside0.mk (blk_below (g := gb196) (o := .cells #[.int .i64 x197000_7, .slice A0_1 l0_1.length c0_1, .string a0_2] 24 (0, 0)) zb15 hb); have n2_ := Aside0.mk (below_step zb7 hb); have n3_ := Aside0.mk (hbox); have n4_ := Aside0.mk ((by rw [hg]; exact (below_size zb7) : w.heap.size ≤ gb212)); have n5_ := Aside0.mk ((by rw [hg]; exact (below_size zb7) : w.heap.size ≤ gb212)); have n6_ := Aside0.mk ((by rw [hg]; exact Nat.ne_of_lt (blk_lt (g := gb196) (o := .cells #[.int .i64 x197000_7, .slice A0_1 l0_1.length c0_1, .string a0_2] 24 (0, 0)) zb15) : gb196 ≠ gb212)); have n7_ := Aside0.mk ((by rw [hg]; exact Nat.ne_of_gt (blk_lt (g := gb196) (o := .cells #[.int .i64 x197000_7, .slice A0_1 l0_1.length c0_1, .string a0_2] 24 (0, 0)) zb15) : gb212 ≠ gb196)); clear HO209; clear BK196; clear HB; have HO209 := n0_; have BK196 := n1_; have HB := n2_; have BK212 := n3_; have GW212 := n4_; have GE212 := n5_; have NB196_212 := n6_; have NB212_196 := n7_; clear n0_ n1_ n2_ n3_ n4_ n5_ n6_ n7_; clear hb hbox hg; have hnb32 := NB212_196.out; have hnc32 := NB196_212.out; have hcz33_0 : w31.cell? ⟨gb212, 0, none⟩ = some (.int .i64 0) := (blk_cell BK212.out 0).trans rfl; have hcz33_1 : w31.cell? ⟨gb212, 1, none⟩ = some (.slice none 0 0) := (blk_cell BK212.out 1).trans rfl; have hcz33_2 : w31.cell? ⟨gb212, 2, none⟩ = some (.string (⟨#[]⟩ : ByteArray)) := (blk_cell BK212.out 2).trans rfl; have hfz33_0 := blk_frozen BK212.out 0; have hfz33_1 := blk_frozen BK212.out 1; have hfz33_2 := blk_frozen BK212.out 2; obtain ⟨Ao34, co34, eo34⟩ := Kd.R_slice HO209.out; subst eo34))
      (try simp only [Act.put, List.setIfInBounds_toArray, List.set_cons_zero, List.set_cons_succ])
      go_cut [74] (fun v74 wc => ∃ (kq : Nat) (x74_26 : Bool), v74 = .bool x74_26 ∧ Aside0 (broadsheetlaw21_ResponseBack.j1 kq true x74_26 x197000_7 l0_1 a0_2 t206 t207 t210 = some r) ∧ Aside0 (kq ≤ kj7) ∧ Aside0 (Kd.R k35 35 wc w.heap.size (fun _ => True) (.slice Ao34 t207.length co34) t207) ∧ Aside0 (wc.heap[gb196]? = some (.cells #[.int .i64 x197000_7, (.slice A0_1 l0_1.length c0_1), .string a0_2] 24 (0, 0))) ∧ Aside0 (wc.heap[gb212]? = some (.cells #[.int .i64 t206, (.slice Ao34 t207.length co34), .string t210] 24 (0, 0))) ∧ Aside0 (Below w.heap.size w wc))
      case first =>
       have H := HC27.out
       clear HC27
       by_cases c35 : t211 = 0
       ·rw [if_pos c35] at H
        have c35b0 : (t211 == 0) = true := beq_iff_eq.mpr c35
        have c35b1 : (t211 != 0) = false := bne_eq_false_iff_eq.mpr c35
        clear c35
        (first | rw [c35b0] | (simp only [i64_w, i32_w]; rw [c35b0]) | skip)
        by_cases c36 : t206 = x197000_7
        ·rw [if_pos c36] at H
         have c36b0 : (t206 == x197000_7) = true := beq_iff_eq.mpr c36
         have c36b1 : (t206 != x197000_7) = false := bne_eq_false_iff_eq.mpr c36
         clear c36
         by_cases c37 : t210.toList = a0_2.toList
         ·rw [if_pos c37] at H
          have c37b0 : (t210.toList == a0_2.toList) = true := beq_iff_eq.mpr c37
          have c37b1 : (t210.toList != a0_2.toList) = false := bne_eq_false_iff_eq.mpr c37
          clear c37
          have H' := Aside0.mk H
          clear H
          have hnb38 := NB212_196.out
          have hnc38 := NB196_212.out
          have hcz39_0 : w31.cell? ⟨gb212, 0, none⟩ = some (.int .i64 0) := (blk_cell BK212.out 0).trans rfl
          have hcz39_1 : w31.cell? ⟨gb212, 1, none⟩ = some (.slice none 0 0) := (blk_cell BK212.out 1).trans rfl
          have hcz39_2 : w31.cell? ⟨gb212, 2, none⟩ = some (.string (⟨#[]⟩ : ByteArray)) := (blk_cell BK212.out 2).trans rfl
          have hfz39_0 := blk_frozen BK212.out 0
          have hfz39_1 := blk_frozen BK212.out 1
          have hfz39_2 := blk_frozen BK212.out 2
          have hcz40_0 : w31.cell? ⟨gb196, 0, none⟩ = some (.int .i64 x197000_7) := (blk_cell BK196.out 0).trans rfl
          have hcz40_1 : w31.cell? ⟨gb196, 1, none⟩ = some (.slice A0_1 l0_1.length c0_1) := (blk_cell BK196.out 1).trans rfl
          have hcz40_2 : w31.cell? ⟨gb196, 2, none⟩ = some (.string a0_2) := (blk_cell BK196.out 2).trans rfl
          have hfz40_0 := blk_frozen BK196.out 0
          have hfz40_1 := blk_frozen BK196.out 1
          have hfz40_2 := blk_frozen BK196.out 2
          go_wp2
          go_meet
          case rel => exact ⟨_, (((t207.length : Int) != (l0_1.length : Int))), zb19, H', ⟨by have := HJ7.out; first | omega | exact Nat.le_refl _⟩, ⟨by (with_reducible repeat (first | apply Kd.R_alloc | apply Kd.R_drewN | apply Kd.R_drew)); exact Kd.R_mono (Kd.R_far (p := ⟨gb212, 2, none⟩) (Kd.R_far (p := ⟨gb212, 1, none⟩) (Kd.R_far (p := ⟨gb212, 0, none⟩) (Kd.R_types HO209.out BK212.out zb32) (fun _ hk => hk.2) (.int .i64 t206)) (fun _ hk => hk.2) (.slice Ao34 t207.length co34)) (fun _ hk => hk.2) (.string t210)) (fun _ hk => trivial)⟩, ⟨by (with_reducible repeat (first | refine blk_drewN ?_ _ | refine blk_drew ?_ | refine blk_alloc ?_ _)); refine blk_far ?_ NB196_212.out _; (with_reducible repeat (first | refine blk_drewN ?_ _ | refine blk_drew ?_ | refine blk_alloc ?_ _)); refine blk_far ?_ NB196_212.out _; (with_reducible repeat (first | refine blk_drewN ?_ _ | refine blk_drew ?_ | refine blk_alloc ?_ _)); refine blk_far ?_ NB196_212.out _; (with_reducible repeat (first | refine blk_drewN ?_ _ | refine blk_drew ?_ | refine blk_alloc ?_ _)); exact BK196.out⟩, ⟨by (with_reducible repeat (first | refine blk_drewN ?_ _ | refine blk_drew ?_ | refine blk_alloc ?_ _)); refine blk_put (cs := #[.int .i64 t206, .slice Ao34 t207.length co34, .string (⟨#[]⟩ : ByteArray)]) ?_ 2 _ rfl; (with_reducible repeat (first | refine blk_drewN ?_ _ | refine blk_drew ?_ | refine blk_alloc ?_ _)); refine blk_put (cs := #[.int .i64 t206, .slice none 0 0, .string (⟨#[]⟩ : ByteArray)]) ?_ 1 _ rfl; (with_reducible repeat (first | refine blk_drewN ?_ _ | refine blk_drew ?_ | refine blk_alloc ?_ _)); refine blk_put (cs := #[.int .i64 0, .slice none 0 0, .string (⟨#[]⟩ : ByteArray)]) ?_ 0 _ rfl; (with_reducible repeat (first | refine blk_drewN ?_ _ | refine blk_drew ?_ | refine blk_alloc ?_ _)); exact BK212.out⟩, ⟨by repeat (first | (with_reducible first | exact HB.out | apply below_alloc | apply pw_below_drewN | apply below_drew1 | refine below_set ?_ GE196.out | refine below_set ?_ GE212.out) | exact HB.out)⟩⟩
         ·rw [if_neg c37] at H
          have c37b0 : (t210.toList == a0_2.toList) = false := beq_eq_false_iff_ne.mpr c37
          have c37b1 : (t210.toList != a0_2.toList) = true := bne_iff_ne.mpr c37
          have H' := Aside0.mk H
          clear H
          have hnb41 := NB212_196.out
          have hnc41 := NB196_212.out
          have hcz42_0 : w31.cell? ⟨gb212, 0, none⟩ = some (.int .i64 0) := (blk_cell BK212.out 0).trans rfl
          have hcz42_1 : w31.cell? ⟨gb212, 1, none⟩ = some (.slice none 0 0) := (blk_cell BK212.out 1).trans rfl
          have hcz42_2 : w31.cell? ⟨gb212, 2, none⟩ = some (.string (⟨#[]⟩ : ByteArray)) := (blk_cell BK212.out 2).trans rfl
          have hfz42_0 := blk_frozen BK212.out 0
          have hfz42_1 := blk_frozen BK212.out 1
          have hfz42_2 := blk_frozen BK212.out 2
          have hcz43_0 : w31.cell? ⟨gb196, 0, none⟩ = some (.int .i64 x197000_7) := (blk_cell BK196.out 0).trans rfl
          have hcz43_1 : w31.cell? ⟨gb196, 1, none⟩ = some (.slice A0_1 l0_1.length c0_1) := (blk_cell BK196.out 1).trans rfl
          have hcz43_2 : w31.cell? ⟨gb196, 2, none⟩ = some (.string a0_2) := (blk_cell BK196.out 2).trans rfl
          have hfz43_0 := blk_frozen BK196.out 0
          have hfz43_1 := blk_frozen BK196.out 1
          have hfz43_2 := blk_frozen BK196.out 2
          go_wp2
          go_meet
          case rel => exact ⟨_, (true), zb19, H', ⟨by have := HJ7.out; first | omega | exact Nat.le_refl _⟩, ⟨by (with_reducible repeat (first | apply Kd.R_alloc | apply Kd.R_drewN | apply Kd.R_drew)); exact Kd.R_mono (Kd.R_far (p := ⟨gb212, 2, none⟩) (Kd.R_far (p := ⟨gb212, 1, none⟩) (Kd.R_far (p := ⟨gb212, 0, none⟩) (Kd.R_types HO209.out BK212.out zb32) (fun _ hk => hk.2) (.int .i64 t206)) (fun _ hk => hk.2) (.slice Ao34 t207.length co34)) (fun _ hk => hk.2) (.string t210)) (fun _ hk => trivial)⟩, ⟨by (with_reducible repeat (first | refine blk_drewN ?_ _ | refine blk_drew ?_ | refine blk_alloc ?_ _)); refine blk_far ?_ NB196_212.out _; (with_reducible repeat (first | refine blk_drewN ?_ _ | refine blk_drew ?_ | refine blk_alloc ?_ _)); refine blk_far ?_ NB196_212.out _; (with_reducible repeat (first | refine blk_drewN ?_ _ | refine blk_drew ?_ | refine blk_alloc ?_ _)); refine blk_far ?_ NB196_212.out _; (with_reducible repeat (first | refine blk_drewN ?_ _ | refine blk_drew ?_ | refine blk_alloc ?_ _)); exact BK196.out⟩, ⟨by (with_reducible repeat (first | refine blk_drewN ?_ _ | refine blk_drew ?_ | refine blk_alloc ?_ _)); refine blk_put (cs := #[.int .i64 t206, .slice Ao34 t207.length co34, .string (⟨#[]⟩ : ByteArray)]) ?_ 2 _ rfl; (with_reducible repeat (first | refine blk_drewN ?_ _ | refine blk_drew ?_ | refine blk_alloc ?_ _)); refine blk_put (cs := #[.int .i64 t206, .slice none 0 0, .string (⟨#[]⟩ : ByteArray)]) ?_ 1 _ rfl; (with_reducible repeat (first | refine blk_drewN ?_ _ | refine blk_drew ?_ | refine blk_alloc ?_ _)); refine blk_put (cs := #[.int .i64 0, .slice none 0 0, .string (⟨#[]⟩ : ByteArray)]) ?_ 0 _ rfl; (with_reducible repeat (first | refine blk_drewN ?_ _ | refine blk_drew ?_ | refine blk_alloc ?_ _)); exact BK212.out⟩, ⟨by repeat (first | (with_reducible first | exact HB.out | apply below_alloc | apply pw_below_drewN | apply below_drew1 | refine below_set ?_ GE196.out | refine below_set ?_ GE212.out) | exact HB.out)⟩⟩
        ·rw [if_neg c36] at H
         have c36b0 : (t206 == x197000_7) = false := beq_eq_false_iff_ne.mpr c36
         have c36b1 : (t206 != x197000_7) = true := bne_iff_ne.mpr c36
         have H' := Aside0.mk H
         clear H
         have hnb44 := NB212_196.out
         have hnc44 := NB196_212.out
         have hcz45_0 : w31.cell? ⟨gb212, 0, none⟩ = some (.int .i64 0) := (blk_cell BK212.out 0).trans rfl
         have hcz45_1 : w31.cell? ⟨gb212, 1, none⟩ = some (.slice none 0 0) := (blk_cell BK212.out 1).trans rfl
         have hcz45_2 : w31.cell? ⟨gb212, 2, none⟩ = some (.string (⟨#[]⟩ : ByteArray)) := (blk_cell BK212.out 2).trans rfl
         have hfz45_0 := blk_frozen BK212.out 0
         have hfz45_1 := blk_frozen BK212.out 1
         have hfz45_2 := blk_frozen BK212.out 2
         have hcz46_0 : w31.cell? ⟨gb196, 0, none⟩ = some (.int .i64 x197000_7) := (blk_cell BK196.out 0).trans rfl
         have hcz46_1 : w31.cell? ⟨gb196, 1, none⟩ = some (.slice A0_1 l0_1.length c0_1) := (blk_cell BK196.out 1).trans rfl
         have hcz46_2 : w31.cell? ⟨gb196, 2, none⟩ = some (.string a0_2) := (blk_cell BK196.out 2).trans rfl
         have hfz46_0 := blk_frozen BK196.out 0
         have hfz46_1 := blk_frozen BK196.out 1
         have hfz46_2 := blk_frozen BK196.out 2
         go_wp2
         go_meet
         case rel => exact ⟨_, (true), zb19, H', ⟨by have := HJ7.out; first | omega | exact Nat.le_refl _⟩, ⟨by (with_reducible repeat (first | apply Kd.R_alloc | apply Kd.R_drewN | apply Kd.R_drew)); exact Kd.R_mono (Kd.R_far (p := ⟨gb212, 2, none⟩) (Kd.R_far (p := ⟨gb212, 1, none⟩) (Kd.R_far (p := ⟨gb212, 0, none⟩) (Kd.R_types HO209.out BK212.out zb32) (fun _ hk => hk.2) (.int .i64 t206)) (fun _ hk => hk.2) (.slice Ao34 t207.length co34)) (fun _ hk => hk.2) (.string t210)) (fun _ hk => trivial)⟩, ⟨by (with_reducible repeat (first | refine blk_drewN ?_ _ | refine blk_drew ?_ | refine blk_alloc ?_ _)); refine blk_far ?_ NB196_212.out _; (with_reducible repeat (first | refine blk_drewN ?_ _ | refine blk_drew ?_ | refine blk_alloc ?_ _)); refine blk_far ?_ NB196_212.out _; (with_reducible repeat (first | refine blk_drewN ?_ _ | refine blk_drew ?_ | refine blk_alloc ?_ _)); refine blk_far ?_ NB196_212.out _; (with_reducible repeat (first | refine blk_drewN ?_ _ | refine blk_drew ?_ | refine blk_alloc ?_ _)); exact BK196.out⟩, ⟨by (with_reducible repeat (first | refine blk_drewN ?_ _ | refine blk_drew ?_ | refine blk_alloc ?_ _)); refine blk_put (cs := #[.int .i64 t206, .slice Ao34 t207.length co34, .string (⟨#[]⟩ : ByteArray)]) ?_ 2 _ rfl; (with_reducible repeat (first | refine blk_drewN ?_ _ | refine blk_drew ?_ | refine blk_alloc ?_ _)); refine blk_put (cs := #[.int .i64 t206, .slice none 0 0, .string (⟨#[]⟩ : ByteArray)]) ?_ 1 _ rfl; (with_reducible repeat (first | refine blk_drewN ?_ _ | refine blk_drew ?_ | refine blk_alloc ?_ _)); refine blk_put (cs := #[.int .i64 0, .slice none 0 0, .string (⟨#[]⟩ : ByteArray)]) ?_ 0 _ rfl; (with_reducible repeat (first | refine blk_drewN ?_ _ | refine blk_drew ?_ | refine blk_alloc ?_ _)); exact BK212.out⟩, ⟨by repeat (first | (with_reducible first | exact HB.out | apply below_alloc | apply pw_below_drewN | apply below_drew1 | refine below_set ?_ GE196.out | refine below_set ?_ GE212.out) | exact HB.out)⟩⟩
       ·rw [if_neg c35] at H
        have c35b0 : (t211 == 0) = false := beq_eq_false_iff_ne.mpr c35
        have c35b1 : (t211 != 0) = true := bne_iff_ne.mpr c35
        (first | rw [c35b0] | (simp only [i64_w, i32_w]; rw [c35b0]) | skip)
        have H' := Aside0.mk H
        clear H
        go_wp2
        go_meet
        case rel => exact ⟨_, (true), zb19, H', ⟨by have := HJ7.out; first | omega | exact Nat.le_refl _⟩, ⟨by (with_reducible repeat (first | apply Kd.R_alloc | apply Kd.R_drewN | apply Kd.R_drew)); exact Kd.R_mono (Kd.R_far (p := ⟨gb212, 2, none⟩) (Kd.R_far (p := ⟨gb212, 1, none⟩) (Kd.R_far (p := ⟨gb212, 0, none⟩) (Kd.R_types HO209.out BK212.out zb32) (fun _ hk => hk.2) (.int .i64 t206)) (fun _ hk => hk.2) (.slice Ao34 t207.length co34)) (fun _ hk => hk.2) (.string t210)) (fun _ hk => trivial)⟩, ⟨by (with_reducible repeat (first | refine blk_drewN ?_ _ | refine blk_drew ?_ | refine blk_alloc ?_ _)); refine blk_far ?_ NB196_212.out _; (with_reducible repeat (first | refine blk_drewN ?_ _ | refine blk_drew ?_ | refine blk_alloc ?_ _)); refine blk_far ?_ NB196_212.out _; (with_reducible repeat (first | refine blk_drewN ?_ _ | refine blk_drew ?_ | refine blk_alloc ?_ _)); refine blk_far ?_ NB196_212.out _; (with_reducible repeat (first | refine blk_drewN ?_ _ | refine blk_drew ?_ | refine blk_alloc ?_ _)); exact BK196.out⟩, ⟨by (with_reducible repeat (first | refine blk_drewN ?_ _ | refine blk_drew ?_ | refine blk_alloc ?_ _)); refine blk_put (cs := #[.int .i64 t206, .slice Ao34 t207.length co34, .string (⟨#[]⟩ : ByteArray)]) ?_ 2 _ rfl; (with_reducible repeat (first | refine blk_drewN ?_ _ | refine blk_drew ?_ | refine blk_alloc ?_ _)); refine blk_put (cs := #[.int .i64 t206, .slice none 0 0, .string (⟨#[]⟩ : ByteArray)]) ?_ 1 _ rfl; (with_reducible repeat (first | refine blk_drewN ?_ _ | refine blk_drew ?_ | refine blk_alloc ?_ _)); refine blk_put (cs := #[.int .i64 0, .slice none 0 0, .string (⟨#[]⟩ : ByteArray)]) ?_ 0 _ rfl; (with_reducible repeat (first | refine blk_drewN ?_ _ | refine blk_drew ?_ | refine blk_alloc ?_ _)); exact BK212.out⟩, ⟨by repeat (first | (with_reducible first | exact HB.out | apply below_alloc | apply pw_below_drewN | apply below_drew1 | refine below_set ?_ GE196.out | refine below_set ?_ GE212.out) | exact HB.out)⟩⟩
      case rest =>
       clear HC27
       try clear c1
       try clear c2
       try clear p2
       try clear q2
       try clear hx2
       try clear c3
       try clear c4
       try clear c5
       try clear c6
       try clear p6
       try clear c7
       try clear c8
       try clear c9
       try clear c15
       try clear c15b0
       try clear c15b1
       try clear c16
       try clear c16b0
       try clear c16b1
       try clear c16b2
       try clear c18
       try clear c18b0
       try clear c19
       try clear c19b0
       try clear p20
       try clear q20
       try clear hx20
       try clear c25
       try clear c25b0
       try clear c25b1
       try clear c32
       try clear c35
       try clear c35b0
       try clear c35b1
       try clear c36
       try clear c36b0
       try clear c36b1
       try clear c37
       try clear c37b0
       try clear c37b1
       try clear c38
       try clear c41
       try clear c44
       try clear hcz11_0
       try clear hcz11_1
       try clear hcz11_2
       try clear hcz13_0
       try clear hcz13_1
       try clear hcz13_2
       try clear hcz23_0
       try clear hcz23_1
       try clear hcz23_2
       try clear hcz28_0
       try clear hcz28_1
       try clear hcz28_2
       try clear hcz33_0
       try clear hcz33_1
       try clear hcz33_2
       try clear hcz39_0
       try clear hcz39_1
       try clear hcz39_2
       try clear hcz40_0
       try clear hcz40_1
       try clear hcz40_2
       try clear hcz42_0
       try clear hcz42_1
       try clear hcz42_2
       try clear hcz43_0
       try clear hcz43_1
       try clear hcz43_2
       try clear hcz45_0
       try clear hcz45_1
       try clear hcz45_2
       try clear hcz46_0
       try clear hcz46_1
       try clear hcz46_2
       try clear hfz11_0
       try clear hfz11_1
       try clear hfz11_2
       try clear hfz13_0
       try clear hfz13_1
       try clear hfz13_2
       try clear hfz23_0
       try clear hfz23_1
       try clear hfz23_2
       try clear hfz28_0
       try clear hfz28_1
       try clear hfz28_2
       try clear hfz33_0
       try clear hfz33_1
       try clear hfz33_2
       try clear hfz39_0
       try clear hfz39_1
       try clear hfz39_2
       try clear hfz40_0
       try clear hfz40_1
       try clear hfz40_2
       try clear hfz42_0
       try clear hfz42_1
       try clear hfz42_2
       try clear hfz43_0
       try clear hfz43_1
       try clear hfz43_2
       try clear hfz45_0
       try clear hfz45_1
       try clear hfz45_2
       try clear hfz46_0
       try clear hfz46_1
       try clear hfz46_2
       try clear hx203_0
       try clear p2
       try clear p20
       try clear p203
       try clear p6
       try clear q2
       try clear q20
       try clear q203
       obtain ⟨kq, x74_26, rfl, HA, HJ26, HO_213001, BK196, BK212, HB⟩ := hcut
       cases kq with
       | zero => exact absurd HA.out (by simp [broadsheetlaw21_ResponseBack.j1])
       | succ kj26 =>
        have H := HA.out
        clear HA
        simp only [broadsheetlaw21_ResponseBack.j1] at H
        by_cases c47 : x74_26 = true
        ·subst c47
         replace H : (some false) = some r := by rw [if_pos rfl] at H; exact H
         exact absurd ((Option.some.inj H).trans hr) zb32
        ·replace c47 := Bool.eq_false_iff.mpr c47
         subst c47
         replace H : (broadsheetlaw21_ResponseBack.l0 kj26 true 0 x197000_7 l0_1 a0_2 t206 t207 t210) = some r := by rw [if_neg (show ¬ (false = true) by decide)] at H; exact H
         have H' := Aside0.mk H
         clear H
         go_wp2
         first | go_loopg [11] kj26 (fun kq v11 w' => ∃ (x11_3 : Int), v11 = .int .i64 x11_3 ∧ Aside0 (broadsheetlaw21_ResponseBack.l0 kq true x11_3 x197000_7 l0_1 a0_2 t206 t207 t210 = some r) ∧ Aside0 (kq ≤ kj26) ∧ Aside0 (Kd.R k35 35 w' w.heap.size (fun _ => True) (.slice Ao34 t207.length co34) t207) ∧ Aside0 (w'.heap[gb196]? = some (.cells #[.int .i64 x197000_7, (.slice A0_1 l0_1.length c0_1), .string a0_2] 24 (0, 0))) ∧ Aside0 (w'.heap[gb212]? = some (.cells #[.int .i64 t206, (.slice Ao34 t207.length co34), .string t210] 24 (0, 0))) ∧ Aside0 (Below w.heap.size w w')) | (go_simp; go_loopg [11] kj26 (fun kq v11 w' => ∃ (x11_3 : Int), v11 = .int .i64 x11_3 ∧ Aside0 (broadsheetlaw21_ResponseBack.l0 kq true x11_3 x197000_7 l0_1 a0_2 t206 t207 t210 = some r) ∧ Aside0 (kq ≤ kj26) ∧ Aside0 (Kd.R k35 35 w' w.heap.size (fun _ => True) (.slice Ao34 t207.length co34) t207) ∧ Aside0 (w'.heap[gb196]? = some (.cells #[.int .i64 x197000_7, (.slice A0_1 l0_1.length c0_1), .string a0_2] 24 (0, 0))) ∧ Aside0 (w'.heap[gb212]? = some (.cells #[.int .i64 t206, (.slice Ao34 t207.length co34), .string t210] 24 (0, 0))) ∧ Aside0 (Below w.heap.size w w')))
         case atStart => exact ⟨(0), zb19, H', ⟨Nat.le_refl _⟩, ⟨by (with_reducible repeat (first | apply Kd.R_alloc | apply Kd.R_drewN | apply Kd.R_drew)); exact HO_213001.out⟩, ⟨by (with_reducible repeat (first | refine blk_drewN ?_ _ | refine blk_drew ?_ | refine blk_alloc ?_ _)); exact BK196.out⟩, ⟨by (with_reducible repeat (first | refine blk_drewN ?_ _ | refine blk_drew ?_ | refine blk_alloc ?_ _)); exact BK212.out⟩, ⟨by repeat (first | (with_reducible first | exact HB.out | apply below_alloc | apply pw_below_drewN | apply below_drew1 | refine below_set ?_ GE196.out | refine below_set ?_ GE212.out) | exact HB.out)⟩⟩
         case round =>
          clear H'
          try clear c1
          try clear c2
          try clear p2
          try clear q2
          try clear hx2
          try clear c3
          try clear c4
          try clear c5
          try clear c6
          try clear p6
          try clear c7
          try clear c8
          try clear c9
          try clear c15
          try clear c15b0
          try clear c15b1
          try clear c16
          try clear c16b0
          try clear c16b1
          try clear c16b2
          try clear c18
          try clear c18b0
          try clear c19
          try clear c19b0
          try clear p20
          try clear q20
          try clear hx20
          try clear c25
          try clear c25b0
          try clear c25b1
          try clear c32
          try clear c35
          try clear c35b0
          try clear c35b1
          try clear c36
          try clear c36b0
          try clear c36b1
          try clear c37
          try clear c37b0
          try clear c37b1
          try clear c38
          try clear c41
          try clear c44
          try clear c47
          try clear hcz11_0
          try clear hcz11_1
          try clear hcz11_2
          try clear hcz13_0
          try clear hcz13_1
          try clear hcz13_2
          try clear hcz23_0
          try clear hcz23_1
          try clear hcz23_2
          try clear hcz28_0
          try clear hcz28_1
          try clear hcz28_2
          try clear hcz33_0
          try clear hcz33_1
          try clear hcz33_2
          try clear hcz39_0
          try clear hcz39_1
          try clear hcz39_2
          try clear hcz40_0
          try clear hcz40_1
          try clear hcz40_2
          try clear hcz42_0
          try clear hcz42_1
          try clear hcz42_2
          try clear hcz43_0
          try clear hcz43_1
          try clear hcz43_2
          try clear hcz45_0
          try clear hcz45_1
          try clear hcz45_2
          try clear hcz46_0
          try clear hcz46_1
          try clear hcz46_2
          try clear hfz11_0
          try clear hfz11_1
          try clear hfz11_2
          try clear hfz13_0
          try clear hfz13_1
          try clear hfz13_2
          try clear hfz23_0
          try clear hfz23_1
          try clear hfz23_2
          try clear hfz28_0
          try clear hfz28_1
          try clear hfz28_2
          try clear hfz33_0
          try clear hfz33_1
          try clear hfz33_2
          try clear hfz39_0
          try clear hfz39_1
          try clear hfz39_2
          try clear hfz40_0
          try clear hfz40_1
          try clear hfz40_2
          try clear hfz42_0
          try clear hfz42_1
          try clear hfz42_2
          try clear hfz43_0
          try clear hfz43_1
          try clear hfz43_2
          try clear hfz45_0
          try clear hfz45_1
          try clear hfz45_2
          try clear hfz46_0
          try clear hfz46_1
          try clear hfz46_2
          try clear hx203_0
          try clear p2
          try clear p20
          try clear p203
          try clear p6
          try clear q2
          try clear q20
          try clear q203
          obtain ⟨x11_3, rfl, HA, HK3, HO_213001, BK196, BK212, HB⟩ := hrel
          cases gk with
          | zero => exact absurd HA.out (by simp [broadsheetlaw21_ResponseBack.l0])
          | succ k3 =>
           have H := HA.out
           clear HA
           simp only [broadsheetlaw21_ResponseBack.l0] at H
           by_cases c48 : x11_3 < (t207.length : Int)
           ·rw [if_pos c48] at H
            have c48b0 : decide (x11_3 < (t207.length : Int)) = true := decide_eq_true c48
            clear c48
            by_cases c49 : 0 ≤ x11_3
            ·rw [if_pos c49] at H
             have c49b0 : decide (0 ≤ x11_3) = true := decide_eq_true c49
             clear c49
             by_cases c50 : x11_3 < (l0_1.length : Int)
             ·rw [if_pos c50] at H
              have c50b0 : decide (x11_3 < (l0_1.length : Int)) = true := decide_eq_true c50
              clear c50
              replace H := Option.bind_eq_some_iff.mp H
              obtain ⟨t215, A510, H⟩ := H
              replace H : (if ((rd_T35 t207 x11_3).f0).toList = t215.toList then (if ((rd_T35 t207 x11_3).f1).toList = ((rd_T35 l0_1 x11_3).f1).toList then (broadsheetlaw21_ResponseBack.l0 k3 true (wrap64 (x11_3 + 1)) x197000_7 l0_1 a0_2 t206 t207 t210) else (some false)) else (some false)) = some r := H
              have A51 := Aside0.mk A510
              clear A510
              by_cases c52 : ((rd_T35 t207 x11_3).f0).toList = t215.toList
              ·rw [if_pos c52] at H
               have c52b0 : (((rd_T35 t207 x11_3).f0).toList == t215.toList) = true := beq_iff_eq.mpr c52
               have c52b1 : (((rd_T35 t207 x11_3).f0).toList != t215.toList) = false := bne_eq_false_iff_eq.mpr c52
               clear c52
               by_cases c53 : ((rd_T35 t207 x11_3).f1).toList = ((rd_T35 l0_1 x11_3).f1).toList
               ·rw [if_pos c53] at H
                have c53b0 : (((rd_T35 t207 x11_3).f1).toList == ((rd_T35 l0_1 x11_3).f1).toList) = true := beq_iff_eq.mpr c53
                have c53b1 : (((rd_T35 t207 x11_3).f1).toList != ((rd_T35 l0_1 x11_3).f1).toList) = false := bne_eq_false_iff_eq.mpr c53
                clear c53
                have H' := Aside0.mk H
                clear H
                have hnb54 := NB212_196.out
                have hnc54 := NB196_212.out
                have hcz55_0 : wr.cell? ⟨gb212, 0, none⟩ = some (.int .i64 t206) := (blk_cell BK212.out 0).trans rfl
                have hcz55_1 : wr.cell? ⟨gb212, 1, none⟩ = some (.slice Ao34 t207.length co34) := (blk_cell BK212.out 1).trans rfl
                have hcz55_2 : wr.cell? ⟨gb212, 2, none⟩ = some (.string t210) := (blk_cell BK212.out 2).trans rfl
                have hfz55_0 := blk_frozen BK212.out 0
                have hfz55_1 := blk_frozen BK212.out 1
                have hfz55_2 := blk_frozen BK212.out 2
                try go_wp2
                have n0_ := Aside0.mk (Kd.R_drew HO_213001.out)
                have n1_ := Aside0.mk (blk_drew BK196.out)
                have n2_ := Aside0.mk (blk_drew BK212.out)
                have n3_ := Aside0.mk (below_drew1 HB.out)
                clear HO_213001
                clear BK196
                clear BK212
                clear HB
                have HO_213001 := n0_
                have BK196 := n1_
                have BK212 := n2_
                have HB := n3_
                clear n0_ n1_ n2_ n3_
                have p213 : 0 ≤ (x11_3 : Int) := of_decide_eq_true zb12
                have q213 : x11_3 < (t207.length : Int) := of_decide_eq_true zb12
                obtain ⟨ad213, e213, hx213_0, hx213_1⟩ := at_T35 (Kd.R_reads' HO_213001.out).2.2 x11_3 p213 q213
                cases e213
                replace p213 := eq_true p213
                replace q213 := eq_true q213
                have p214 : 0 ≤ (x11_3 : Int) := of_decide_eq_true zb12
                have q214 : x11_3 < (l0_1.length : Int) := of_decide_eq_true zb12
                obtain ⟨ad214, e214, hx214_0, hx214_1⟩ := at_T35 HR0_1.out x11_3 p214 q214
                have hw214_1 := hx214_1
                have hw214_0 := hx214_0
                cases e214
                replace hx214_0 := (HB.out.cell (World.block_lt_of_cell? w _ hx214_0)).trans hx214_0
                replace hx214_1 := (HB.out.cell (World.block_lt_of_cell? w _ hx214_1)).trans hx214_1
                replace p214 := eq_true p214
                replace q214 := eq_true q214
                have p216 : 0 ≤ (x11_3 : Int) := of_decide_eq_true zb12
                have q216 : x11_3 < (t207.length : Int) := of_decide_eq_true zb12
                obtain ⟨ad216, e216, hx216_0, hx216_1⟩ := at_T35 (Kd.R_reads' HO_213001.out).2.2 x11_3 p216 q216
                obtain rfl : ad213 = ad216 := (by injection e216)
                replace p216 := eq_true p216
                replace q216 := eq_true q216
                have p217 : 0 ≤ (x11_3 : Int) := of_decide_eq_true zb12
                have q217 : x11_3 < (l0_1.length : Int) := of_decide_eq_true zb12
                obtain ⟨ad217, e217, hx217_0, hx217_1⟩ := at_T35 HR0_1.out x11_3 p217 q217
                have hw217_1 := hx217_1
                have hw217_0 := hx217_0
                obtain rfl : ad214 = ad217 := (by injection e217)
                replace hx217_0 := (HB.out.cell (World.block_lt_of_cell? w _ hx217_0)).trans hx217_0
                replace hx217_1 := (HB.out.cell (World.block_lt_of_cell? w _ hx217_1)).trans hx217_1
                replace p217 := eq_true p217
                replace q217 := eq_true q217
                refine start_ (n := 29) (S := fun w' => w'.cell? ⟨gb212, 0, none⟩ = some (.int .i64 t206) ∧ w'.cell? ⟨gb212, 1, none⟩ = some (.slice (some ad213) t207.length co34) ∧ w'.cell? ⟨gb212, 2, none⟩ = some (.string t210) ∧ w'.cell? ⟨gb196, 0, none⟩ = some (.int .i64 x197000_7) ∧ w'.cell? ⟨gb196, 1, none⟩ = some (.slice (some ad214) l0_1.length c0_1) ∧ w'.cell? ⟨gb196, 2, none⟩ = some (.string a0_2) ∧ w'.cell? (ad213.add ((x11_3).toNat * 2)) = some (.string ((rd_T35 t207 x11_3).f0)) ∧ w'.cell? ⟨(ad213.add ((x11_3).toNat * 2)).block, (ad213.add ((x11_3).toNat * 2)).off + 1, none⟩ = some (.string ((rd_T35 t207 x11_3).f1)) ∧ w'.cell? (ad214.add ((x11_3).toNat * 2)) = some (.string ((rd_T35 l0_1 x11_3).f0)) ∧ w'.cell? ⟨(ad214.add ((x11_3).toNat * 2)).block, (ad214.add ((x11_3).toNat * 2)).off + 1, none⟩ = some (.string ((rd_T35 l0_1 x11_3).f1)) ∧ w'.cell? (ad213.add ((x11_3).toNat * 2)) = some (.string ((rd_T35 t207 x11_3).f0)) ∧ w'.cell? ⟨(ad213.add ((x11_3).toNat * 2)).block, (ad213.add ((x11_3).toNat * 2)).off + 1, none⟩ = some (.string ((rd_T35 t207 x11_3).f1)) ∧ w'.cell? (ad214.add ((x11_3).toNat * 2)) = some (.string ((rd_T35 l0_1 x11_3).f0)) ∧ w'.cell? ⟨(ad214.add ((x11_3).toNat * 2)).block, (ad214.add ((x11_3).toNat * 2)).off + 1, none⟩ = some (.string ((rd_T35 l0_1 x11_3).f1))) (ds := []) #[false, false, false, false, false, false, false, false, false, false, false, false, false, false, false, false, false, false, false, false, false, false, false, false, false, false, false, false, false] zb11 rfl rfl ⟨(blk_cell BK212.out 0).trans rfl, (blk_cell BK212.out 1).trans rfl, (blk_cell BK212.out 2).trans rfl, (blk_cell BK196.out 0).trans rfl, (blk_cell BK196.out 1).trans rfl, (blk_cell BK196.out 2).trans rfl, hx213_0, hx213_1, ((HB.out.cell (World.block_lt_of_cell? w _ hw214_0)).trans hw214_0), ((HB.out.cell (World.block_lt_of_cell? w _ hw214_1)).trans hw214_1), hx216_0, hx216_1, ((HB.out.cell (World.block_lt_of_cell? w _ hw217_0)).trans hw217_0), ((HB.out.cell (World.block_lt_of_cell? w _ hw217_1)).trans hw217_1)⟩ (fun hHeld => ?_); refine with_tabW broadsheetlaw21_ResponseBack.tab18 broadsheetlaw21_ResponseBack.bits18 (fun HT_ HW_ => ?_)
                generalize wr.drew = w56 at HO_213001 BK196 BK212 HB hx213_0 hx213_1 hx214_0 hx214_1 hx216_0 hx216_1 hx217_0 hx217_1 hHeld ⊢
                refine pure_ (i := 0) (N := some 82) (v := ?_) (a' := ?_) #[true, false, false, false, false, false, false, false, false, false, false, false, false, false, false, false, false, false, false, false, false, false, false, false, false, false, false, false, false] rfl rfl (any_of HT_.out zb11) (fun _ _ _ h => h) (Or.inl ⟨by rfl, ?_⟩) ?_ ?_
                rotate_left
                ·intro w'
                 go_simp
                 first | with_reducible rfl | (rw [if_neg zb2])
                rotate_left
                ·simp only [Act.put, List.setIfInBounds_toArray, List.set_cons_zero, List.set_cons_succ, i64_w, i32_w]
                 rfl
                refine pure_ (i := 2) (N := some 84) (v := ?_) (a' := ?_) #[true, false, true, false, false, false, false, false, false, false, false, false, false, false, false, false, false, false, false, false, false, false, false, false, false, false, false, false, false] rfl rfl (any_of HT_.out zb11) (fun _ _ _ h => h) (Or.inl ⟨by rfl, ?_⟩) ?_ ?_
                rotate_left
                ·intro w'
                 go_simp
                 first | with_reducible rfl | (rw [if_neg zb2])
                rotate_left
                ·simp only [Act.put, List.setIfInBounds_toArray, List.set_cons_zero, List.set_cons_succ, i64_w, i32_w]
                 rfl
                refine pure_ (i := 6) (N := some 88) (v := ?_) (a' := ?_) #[true, false, true, false, false, false, true, false, false, false, false, false, false, false, false, false, false, false, false, false, false, false, false, false, false, false, false, false, false] rfl rfl (any_of HT_.out zb11) (fun _ _ _ h => h) (Or.inl ⟨by rfl, ?_⟩) ?_ ?_
                rotate_left
                ·intro w'
                 go_simp
                 first | with_reducible rfl | (rw [if_neg zb2])
                rotate_left
                ·simp only [Act.put, List.setIfInBounds_toArray, List.set_cons_zero, List.set_cons_succ, i64_w, i32_w]
                 rfl
                refine pure_ (i := 8) (N := some 90) (v := ?_) (a' := ?_) #[true, false, true, false, false, false, true, false, true, false, false, false, false, false, false, false, false, false, false, false, false, false, false, false, false, false, false, false, false] rfl rfl (any_of HT_.out zb11) (fun _ _ _ h => h) (Or.inl ⟨by rfl, ?_⟩) ?_ ?_
                rotate_left
                ·intro w'
                 go_simp
                 first | with_reducible rfl | (rw [if_neg zb2])
                rotate_left
                ·simp only [Act.put, List.setIfInBounds_toArray, List.set_cons_zero, List.set_cons_succ, i64_w, i32_w]
                 rfl
                refine take_ (i := 1) (N := some 83) (v := ?_) (a' := ?_) #[true, true, true, false, false, false, true, false, true, false, false, false, false, false, false, false, false, false, false, false, false, false, false, false, false, false, false, false, false] rfl rfl (take_ofW HT_.out HW_.out zb11) (fun _ _ _ h => h) (Or.inl ⟨by rfl, ?_⟩) hHeld ?_ ?_
                rotate_left
                ·rintro w' ⟨s0, s1, s2, s3, s4, s5, s6, s7, s8, s9, s10, s11, s12, s13⟩
                 go_simp
                 first | with_reducible rfl | (rw [if_neg zb2])
                rotate_left
                ·simp only [Act.put, List.setIfInBounds_toArray, List.set_cons_zero, List.set_cons_succ, i64_w, i32_w]
                 rfl
                refine pure_ (i := 3) (N := some 85) (v := ?_) (a' := ?_) #[true, true, true, true, false, false, true, false, true, false, false, false, false, false, false, false, false, false, false, false, false, false, false, false, false, false, false, false, false] rfl rfl (any_of HT_.out zb11) (fun _ _ _ h => h) (Or.inl ⟨by rfl, ?_⟩) ?_ ?_
                rotate_left
                ·intro w'
                 go_simp
                 first | with_reducible rfl | (rw [if_neg zb2])
                rotate_left
                ·simp only [Act.put, List.setIfInBounds_toArray, List.set_cons_zero, List.set_cons_succ, i64_w, i32_w]
                 rfl
                refine pure_ (i := 4) (N := some 86) (v := ?_) (a' := ?_) #[true, true, true, true, true, false, true, false, true, false, false, false, false, false, false, false, false, false, false, false, false, false, false, false, false, false, false, false, false] rfl rfl (any_of HT_.out zb11) (fun _ _ _ h => h) (Or.inl ⟨by rfl, ?_⟩) ?_ ?_
                rotate_left
                ·intro w'
                 go_simp
                 first | with_reducible rfl | (rw [if_neg zb2])
                rotate_left
                ·simp only [Act.put, List.setIfInBounds_toArray, List.set_cons_zero, List.set_cons_succ, i64_w, i32_w]
                 rfl
                refine take_ (i := 5) (N := some 87) (v := ?_) (a' := ?_) #[true, true, true, true, true, true, true, false, true, false, false, false, false, false, false, false, false, false, false, false, false, false, false, false, false, false, false, false, false] rfl rfl (take_ofW HT_.out HW_.out zb11) (fun _ _ _ h => h) (Or.inl ⟨by rfl, ?_⟩) hHeld ?_ ?_
                rotate_left
                ·rintro w' ⟨s0, s1, s2, s3, s4, s5, s6, s7, s8, s9, s10, s11, s12, s13⟩
                 go_simp
                 first | with_reducible rfl | (rw [if_neg zb2])
                rotate_left
                ·simp only [Act.put, List.setIfInBounds_toArray, List.set_cons_zero, List.set_cons_succ, i64_w, i32_w]
                 rfl
                refine take_ (i := 7) (N := some 89) (v := ?_) (a' := ?_) #[true, true, true, true, true, true, true, true, true, false, false, false, false, false, false, false, false, false, false, false, false, false, false, false, false, false, false, false, false] rfl rfl (take_ofW HT_.out HW_.out zb11) (fun _ _ _ h => h) (Or.inl ⟨by rfl, ?_⟩) hHeld ?_ ?_
                rotate_left
                ·rintro w' ⟨s0, s1, s2, s3, s4, s5, s6, s7, s8, s9, s10, s11, s12, s13⟩
                 go_simp
                 first | with_reducible rfl | (rw [if_neg zb2])
                rotate_left
                ·simp only [Act.put, List.setIfInBounds_toArray, List.set_cons_zero, List.set_cons_succ, i64_w, i32_w]
                 rfl
                refine pure_ (i := 9) (N := some 91) (v := ?_) (a' := ?_) #[true, true, true, true, true, true, true, true, true, true, false, false, false, false, false, false, false, false, false, false, false, false, false, false, false, false, false, false, false] rfl rfl (any_of HT_.out zb11) (fun _ _ _ h => h) (Or.inl ⟨by rfl, ?_⟩) ?_ ?_
                rotate_left
                ·intro w'
                 go_simp
                 first | with_reducible rfl | (rw [if_neg zb2])
                rotate_left
                ·simp only [Act.put, List.setIfInBounds_toArray, List.set_cons_zero, List.set_cons_succ, i64_w, i32_w]
                 rfl
                refine pure_ (i := 10) (N := some 92) (v := ?_) (a' := ?_) #[true, true, true, true, true, true, true, true, true, true, true, false, false, false, false, false, false, false, false, false, false, false, false, false, false, false, false, false, false] rfl rfl (any_of HT_.out zb11) (fun _ _ _ h => h) (Or.inl ⟨by rfl, ?_⟩) ?_ ?_
                rotate_left
                ·intro w'
                 go_simp
                 first | with_reducible rfl | (rw [if_neg zb2])
                rotate_left
                ·simp only [Act.put, List.setIfInBounds_toArray, List.set_cons_zero, List.set_cons_succ, i64_w, i32_w]
                 rfl
                refine take_ (i := 11) (N := some 93) (v := ?_) (a' := ?_) #[true, true, true, true, true, true, true, true, true, true, true, true, false, false, false, false, false, false, false, false, false, false, false, false, false, false, false, false, false] rfl rfl (take_ofW HT_.out HW_.out zb11) (fun _ _ _ h => h) (Or.inl ⟨by rfl, ?_⟩) hHeld ?_ ?_
                rotate_left
                ·rintro w' ⟨s0, s1, s2, s3, s4, s5, s6, s7, s8, s9, s10, s11, s12, s13⟩
                 go_simp
                 first | with_reducible rfl | (rw [if_neg zb2])
                rotate_left
                ·simp only [Act.put, List.setIfInBounds_toArray, List.set_cons_zero, List.set_cons_succ, i64_w, i32_w]
                 rfl
                refine one_ (i := 12) (N := some 94) #[true, true, true, true, true, true, true, true, true, true, true, true, true, false, false, false, false, false, false, false, false, false, false, false, false, false, false, false, false] rfl rfl (one_of HT_.out zb11) zb32 (fun K hK => ?_)
                refine goes_ Tryd.func10 zb11 rfl #[.string ((rd_T35 l0_1 x11_3).f0)] (by rfl) rfl rfl zb1 ?_
                with_reducible refine (broadsheetref07_Lower.calls k3 ((rd_T35 l0_1 x11_3).f0) t215 _ A51.out).mono ?_
                rintro e w57 ⟨rfl, hb⟩
                have HS6_ := (hb.cell (World.block_lt_of_cell? _ _ (hHeld.2.2.2.2.2.2.1))).trans (hHeld.2.2.2.2.2.2.1)
                have HS7_ := (hb.cell (World.block_lt_of_cell? _ _ (hHeld.2.2.2.2.2.2.2.1))).trans (hHeld.2.2.2.2.2.2.2.1)
                have HS10_ := (hb.cell (World.block_lt_of_cell? _ _ (hHeld.2.2.2.2.2.2.2.2.2.2.1))).trans (hHeld.2.2.2.2.2.2.2.2.2.2.1)
                have HS11_ := (hb.cell (World.block_lt_of_cell? _ _ (hHeld.2.2.2.2.2.2.2.2.2.2.2.1))).trans (hHeld.2.2.2.2.2.2.2.2.2.2.2.1)
                refine ⟨_, rfl, ?_⟩
                have n0_ := Aside0.mk (Kd.R_below (by (with_reducible repeat (first | apply Kd.R_alloc | apply Kd.R_drewN | apply Kd.R_drew)); exact HO_213001.out) hb)
                have n1_ := Aside0.mk (blk_below (g := gb196) (o := .cells #[.int .i64 x197000_7, .slice (some ad214) l0_1.length c0_1, .string a0_2] 24 (0, 0)) zb15 hb)
                have n2_ := Aside0.mk (blk_below (g := gb212) (o := .cells #[.int .i64 t206, .slice (some ad213) t207.length co34, .string t210] 24 (0, 0)) (by (with_reducible repeat (first | refine blk_drewN ?_ _ | refine blk_drew ?_ | refine blk_alloc ?_ _)); exact BK212.out) hb)
                have n3_ := Aside0.mk (below_step (by repeat (first | (with_reducible first | exact HB.out | apply below_alloc | apply pw_below_drewN | apply below_drew1 | refine below_set ?_ GE196.out | refine below_set ?_ GE212.out) | exact HB.out)) hb)
                clear HO_213001
                clear BK196
                clear BK212
                clear HB
                have HO_213001 := n0_
                have BK196 := n1_
                have BK212 := n2_
                have HB := n3_
                clear n0_ n1_ n2_ n3_
                (try clear hb)
                (try clear hb2)
                (try clear hk)
                (try clear hi)
                refine hK.out _ _ ⟨(blk_cell BK212.out 0).trans rfl, (blk_cell BK212.out 1).trans rfl, (blk_cell BK212.out 2).trans rfl, (blk_cell BK196.out 0).trans rfl, (blk_cell BK196.out 1).trans rfl, (blk_cell BK196.out 2).trans rfl, HS6_, HS7_, ((HB.out.cell (World.block_lt_of_cell? w _ hw214_0)).trans hw214_0), ((HB.out.cell (World.block_lt_of_cell? w _ hw214_1)).trans hw214_1), HS10_, HS11_, ((HB.out.cell (World.block_lt_of_cell? w _ hw217_0)).trans hw217_0), ((HB.out.cell (World.block_lt_of_cell? w _ hw217_1)).trans hw217_1)⟩ (fun hHeld => ?_)
                clear hK K
                refine norm_ (a' := ?_) ?_ ?_
                rotate_left
                ·show Act.put _ (some 94) _ = _
                 simp only [Act.put, List.setIfInBounds_toArray, List.set_cons_zero, List.set_cons_succ, i64_w, i32_w]
                 rfl
                refine pure_ (i := 13) (N := some 95) (v := ?_) (a' := ?_) #[true, true, true, true, true, true, true, true, true, true, true, true, true, true, false, false, false, false, false, false, false, false, false, false, false, false, false, false, false] rfl rfl (any_of HT_.out zb11) (fun _ _ _ h => h) (Or.inl ⟨by rfl, ?_⟩) ?_ ?_
                rotate_left
                ·intro w'
                 go_simp
                 first | with_reducible rfl | (rw [if_neg zb2])
                rotate_left
                ·simp only [Act.put, List.setIfInBounds_toArray, List.set_cons_zero, List.set_cons_succ, i64_w, i32_w]
                 rfl
                refine pure_ (i := 14) (N := some 96) (v := ?_) (a' := ?_) #[true, true, true, true, true, true, true, true, true, true, true, true, true, true, true, false, false, false, false, false, false, false, false, false, false, false, false, false, false] rfl rfl (any_of HT_.out zb11) (fun _ _ _ h => h) (Or.inl ⟨by rfl, ?_⟩) ?_ ?_
                rotate_left
                ·intro w'
                 go_simp
                 first | with_reducible rfl | (rw [if_neg zb2])
                rotate_left
                ·simp only [Act.put, List.setIfInBounds_toArray, List.set_cons_zero, List.set_cons_succ, i64_w, i32_w]
                 rfl
                refine pure_ (i := 15) (N := some 97) (v := ?_) (a' := ?_) #[true, true, true, true, true, true, true, true, true, true, true, true, true, true, true, true, false, false, false, false, false, false, false, false, false, false, false, false, false] rfl rfl (any_of HT_.out zb11) (fun _ _ _ h => h) (Or.inl ⟨by rfl, ?_⟩) ?_ ?_
                rotate_left
                ·intro w'
                 go_simp
                 first | with_reducible rfl | (rw [if_neg zb2])
                rotate_left
                ·simp only [Act.put, List.setIfInBounds_toArray, List.set_cons_zero, List.set_cons_succ, i64_w, i32_w]
                 rfl
                refine pure_ (i := 17) (N := some 99) (v := ?_) (a' := ?_) #[true, true, true, true, true, true, true, true, true, true, true, true, true, true, true, true, false, true, false, false, false, false, false, false, false, false, false, false, false] rfl rfl (any_of HT_.out zb11) (fun _ _ _ h => h) (Or.inl ⟨by rfl, ?_⟩) ?_ ?_
                rotate_left
                ·intro w'
                 go_simp
                 first | with_reducible rfl | (rw [if_neg zb2])
                rotate_left
                ·simp only [Act.put, List.setIfInBounds_toArray, List.set_cons_zero, List.set_cons_succ, i64_w, i32_w]
                 rfl
                refine pure_ (i := 21) (N := some 103) (v := ?_) (a' := ?_) #[true, true, true, true, true, true, true, true, true, true, true, true, true, true, true, true, false, true, false, false, false, true, false, false, false, false, false, false, false] rfl rfl (any_of HT_.out zb11) (fun _ _ _ h => h) (Or.inl ⟨by rfl, ?_⟩) ?_ ?_
                rotate_left
                ·intro w'
                 go_simp
                 first | with_reducible rfl | (rw [if_neg zb2])
                rotate_left
                ·simp only [Act.put, List.setIfInBounds_toArray, List.set_cons_zero, List.set_cons_succ, i64_w, i32_w]
                 rfl
                refine pure_ (i := 23) (N := some 105) (v := ?_) (a' := ?_) #[true, true, true, true, true, true, true, true, true, true, true, true, true, true, true, true, false, true, false, false, false, true, false, true, false, false, false, false, false] rfl rfl (any_of HT_.out zb11) (fun _ _ _ h => h) (Or.inl ⟨by rfl, ?_⟩) ?_ ?_
                rotate_left
                ·intro w'
                 go_simp
                 first | with_reducible rfl | (rw [if_neg zb2])
                rotate_left
                ·simp only [Act.put, List.setIfInBounds_toArray, List.set_cons_zero, List.set_cons_succ, i64_w, i32_w]
                 rfl
                refine take_ (i := 16) (N := some 98) (v := ?_) (a' := ?_) #[true, true, true, true, true, true, true, true, true, true, true, true, true, true, true, true, true, true, false, false, false, true, false, true, false, false, false, false, false] rfl rfl (take_ofW HT_.out HW_.out zb11) (fun _ _ _ h => h) (Or.inl ⟨by rfl, ?_⟩) hHeld ?_ ?_
                rotate_left
                ·rintro w' ⟨s0, s1, s2, s3, s4, s5, s6, s7, s8, s9, s10, s11, s12, s13⟩
                 go_simp
                 first | with_reducible rfl | (rw [if_neg zb2])
                rotate_left
                ·simp only [Act.put, List.setIfInBounds_toArray, List.set_cons_zero, List.set_cons_succ, i64_w, i32_w]
                 rfl
                refine pure_ (i := 18) (N := some 100) (v := ?_) (a' := ?_) #[true, true, true, true, true, true, true, true, true, true, true, true, true, true, true, true, true, true, true, false, false, true, false, true, false, false, false, false, false] rfl rfl (any_of HT_.out zb11) (fun _ _ _ h => h) (Or.inl ⟨by rfl, ?_⟩) ?_ ?_
                rotate_left
                ·intro w'
                 go_simp
                 first | with_reducible rfl | (rw [if_neg zb2])
                rotate_left
                ·simp only [Act.put, List.setIfInBounds_toArray, List.set_cons_zero, List.set_cons_succ, i64_w, i32_w]
                 rfl
                refine pure_ (i := 19) (N := some 101) (v := ?_) (a' := ?_) #[true, true, true, true, true, true, true, true, true, true, true, true, true, true, true, true, true, true, true, true, false, true, false, true, false, false, false, false, false] rfl rfl (any_of HT_.out zb11) (fun _ _ _ h => h) (Or.inl ⟨by rfl, ?_⟩) ?_ ?_
                rotate_left
                ·intro w'
                 go_simp
                 first | with_reducible rfl | (rw [if_neg zb2])
                rotate_left
                ·simp only [Act.put, List.setIfInBounds_toArray, List.set_cons_zero, List.set_cons_succ, i64_w, i32_w]
                 rfl
                refine take_ (i := 20) (N := some 102) (v := ?_) (a' := ?_) #[true, true, true, true, true, true, true, true, true, true, true, true, true, true, true, true, true, true, true, true, true, true, false, true, false, false, false, false, false] rfl rfl (take_ofW HT_.out HW_.out zb11) (fun _ _ _ h => h) (Or.inl ⟨by rfl, ?_⟩) hHeld ?_ ?_
                rotate_left
                ·rintro w' ⟨s0, s1, s2, s3, s4, s5, s6, s7, s8, s9, s10, s11, s12, s13⟩
                 go_simp
                 first | with_reducible rfl | (rw [if_neg zb2])
                rotate_left
                ·simp only [Act.put, List.setIfInBounds_toArray, List.set_cons_zero, List.set_cons_succ, i64_w, i32_w]
                 rfl
                refine take_ (i := 22) (N := some 104) (v := ?_) (a' := ?_) #[true, true, true, true, true, true, true, true, true, true, true, true, true, true, true, true, true, true, true, true, true, true, true, true, false, false, false, false, false] rfl rfl (take_ofW HT_.out HW_.out zb11) (fun _ _ _ h => h) (Or.inl ⟨by rfl, ?_⟩) hHeld ?_ ?_
                rotate_left
                ·rintro w' ⟨s0, s1, s2, s3, s4, s5, s6, s7, s8, s9, s10, s11, s12, s13⟩
                 go_simp
                 first | with_reducible rfl | (rw [if_neg zb2])
                rotate_left
                ·simp only [Act.put, List.setIfInBounds_toArray, List.set_cons_zero, List.set_cons_succ, i64_w, i32_w]
                 rfl
                refine pure_ (i := 24) (N := some 106) (v := ?_) (a' := ?_) #[true, true, true, true, true, true, true, true, true, true, true, true, true, true, true, true, true, true, true, true, true, true, true, true, true, false, false, false, false] rfl rfl (any_of HT_.out zb11) (fun _ _ _ h => h) (Or.inl ⟨by rfl, ?_⟩) ?_ ?_
                rotate_left
                ·intro w'
                 go_simp
                 first | with_reducible rfl | (rw [if_neg zb2])
                rotate_left
                ·simp only [Act.put, List.setIfInBounds_toArray, List.set_cons_zero, List.set_cons_succ, i64_w, i32_w]
                 rfl
                refine pure_ (i := 25) (N := some 107) (v := ?_) (a' := ?_) #[true, true, true, true, true, true, true, true, true, true, true, true, true, true, true, true, true, true, true, true, true, true, true, true, true, true, false, false, false] rfl rfl (any_of HT_.out zb11) (fun _ _ _ h => h) (Or.inl ⟨by rfl, ?_⟩) ?_ ?_
                rotate_left
                ·intro w'
                 go_simp
                 first | with_reducible rfl | (rw [if_neg zb2])
                rotate_left
                ·simp only [Act.put, List.setIfInBounds_toArray, List.set_cons_zero, List.set_cons_succ, i64_w, i32_w]
                 rfl
                refine take_ (i := 26) (N := some 108) (v := ?_) (a' := ?_) #[true, true, true, true, true, true, true, true, true, true, true, true, true, true, true, true, true, true, true, true, true, true, true, true, true, true, true, false, false] rfl rfl (take_ofW HT_.out HW_.out zb11) (fun _ _ _ h => h) (Or.inl ⟨by rfl, ?_⟩) hHeld ?_ ?_
                rotate_left
                ·rintro w' ⟨s0, s1, s2, s3, s4, s5, s6, s7, s8, s9, s10, s11, s12, s13⟩
                 go_simp
                 first | with_reducible rfl | (rw [if_neg zb2])
                rotate_left
                ·simp only [Act.put, List.setIfInBounds_toArray, List.set_cons_zero, List.set_cons_succ, i64_w, i32_w]
                 rfl
                refine pure_ (i := 27) (N := some 109) (v := ?_) (a' := ?_) #[true, true, true, true, true, true, true, true, true, true, true, true, true, true, true, true, true, true, true, true, true, true, true, true, true, true, true, true, false] rfl rfl (any_of HT_.out zb11) (fun _ _ _ h => h) (Or.inl ⟨by rfl, ?_⟩) ?_ ?_
                rotate_left
                ·intro w'
                 go_simp
                 first | with_reducible rfl | (rw [if_neg zb2])
                rotate_left
                ·simp only [Act.put, List.setIfInBounds_toArray, List.set_cons_zero, List.set_cons_succ, i64_w, i32_w]
                 rfl
                refine pure_ (i := 28) (N := some 110) (v := ?_) (a' := ?_) #[true, true, true, true, true, true, true, true, true, true, true, true, true, true, true, true, true, true, true, true, true, true, true, true, true, true, true, true, true] rfl rfl (any_of HT_.out zb11) (fun _ _ _ h => h) (Or.inl ⟨by rfl, ?_⟩) ?_ ?_
                rotate_left
                ·intro w'
                 go_simp
                 first | with_reducible rfl | (rw [if_neg zb2])
                rotate_left
                ·simp only [Act.put, List.setIfInBounds_toArray, List.set_cons_zero, List.set_cons_succ, i64_w, i32_w]
                 rfl
                refine done_ (done_of HT_.out zb11) ?_
                try go_wp2
                go_roundg k3
                case measure => have := HJ7.out; have := HJ26.out; have := HK3.out; omega
                case rel => exact ⟨(wrap64 (x11_3 + 1)), zb19, H', ⟨by have := HJ7.out; have := HJ26.out; have := HK3.out; omega⟩, ⟨by (with_reducible repeat (first | apply Kd.R_alloc | apply Kd.R_drewN | apply Kd.R_drew)); exact HO_213001.out⟩, ⟨by (with_reducible repeat (first | refine blk_drewN ?_ _ | refine blk_drew ?_ | refine blk_alloc ?_ _)); exact BK196.out⟩, ⟨by (with_reducible repeat (first | refine blk_drewN ?_ _ | refine blk_drew ?_ | refine blk_alloc ?_ _)); exact BK212.out⟩, ⟨by repeat (first | (with_reducible first | exact HB.out | apply below_alloc | apply pw_below_drewN | apply below_drew1 | refine below_set ?_ GE196.out | refine below_set ?_ GE212.out) | exact HB.out)⟩⟩
               ·rw [if_neg c53] at H
                have c53b0 : (((rd_T35 t207 x11_3).f1).toList == ((rd_T35 l0_1 x11_3).f1).toList) = false := beq_eq_false_iff_ne.mpr c53
                have c53b1 : (((rd_T35 t207 x11_3).f1).toList != ((rd_T35 l0_1 x11_3).f1).toList) = true := bne_iff_ne.mpr c53
                exact absurd ((Option.some.inj H).trans hr) zb32
              ·rw [if_neg c52] at H
               have c52b0 : (((rd_T35 t207 x11_3).f0).toList == t215.toList) = false := beq_eq_false_iff_ne.mpr c52
               have c52b1 : (((rd_T35 t207 x11_3).f0).toList != t215.toList) = true := bne_iff_ne.mpr c52
               exact absurd ((Option.some.inj H).trans hr) zb32
             ·rw [if_neg c50] at H
              exact absurd H (by simp)
            ·rw [if_neg c49] at H
             exact absurd H (by simp)
           ·rw [if_neg c48] at H
            have c48b0 : decide (x11_3 < (t207.length : Int)) = false := decide_eq_false c48
            clear c48
            obtain rfl := Option.some.inj H
            have hnb66 := NB212_196.out
            have hnc66 := NB196_212.out
            have hcz67_0 : wr.cell? ⟨gb212, 0, none⟩ = some (.int .i64 t206) := (blk_cell BK212.out 0).trans rfl
            have hcz67_1 : wr.cell? ⟨gb212, 1, none⟩ = some (.slice Ao34 t207.length co34) := (blk_cell BK212.out 1).trans rfl
            have hcz67_2 : wr.cell? ⟨gb212, 2, none⟩ = some (.string t210) := (blk_cell BK212.out 2).trans rfl
            have hfz67_0 := blk_frozen BK212.out 0
            have hfz67_1 := blk_frozen BK212.out 1
            have hfz67_2 := blk_frozen BK212.out 2
            go_wp2
            go_ret
            exact ⟨zb8, (by repeat (first | (with_reducible first | exact HB.out | apply below_alloc | apply pw_below_drewN | apply below_drew1 | refine below_set ?_ GE196.out | refine below_set ?_ GE212.out) | exact HB.out))⟩
     ·rw [if_neg c25] at H
      have c25b0 : (t205 == 0) = false := beq_eq_false_iff_ne.mpr c25
      have c25b1 : (t205 != 0) = true := bne_iff_ne.mpr c25
      replace H : (some (t204.toList == ([] : List UInt8))) = some r := by rw [if_pos rfl] at H; exact H
      obtain rfl := Option.some.inj H
      have hcz68_0 : wc.cell? ⟨gb196, 0, none⟩ = some (.int .i64 x197000_7) := (blk_cell BK196.out 0).trans rfl
      have hcz68_1 : wc.cell? ⟨gb196, 1, none⟩ = some (.slice A0_1 l0_1.length c0_1) := (blk_cell BK196.out 1).trans rfl
      have hcz68_2 : wc.cell? ⟨gb196, 2, none⟩ = some (.string a0_2) := (blk_cell BK196.out 2).trans rfl
      have hfz68_0 := blk_frozen BK196.out 0
      have hfz68_1 := blk_frozen BK196.out 1
      have hfz68_2 := blk_frozen BK196.out 2
      go_wp2_with (first | ((with_reducible refine gate_callee (f := 8) rfl ?_); refine goesL_ (some 35) rfl rfl Tryd.func8 zb11 rfl #[.agg #[.int .i64 x197000_7, .slice A0_1 l0_1.length c0_1, .string a0_2]] rfl zb1 ?_; (with_reducible refine (response_Print.calls kj7 x197000_7 _ _ l0_1 a0_2 t204 t205 _ ?side1 ?side2 ?side3 A24.out).mono ?_); (case side1 => repeat (first | exact (Kd.C_below HR0_1.out HB.out) | (with_reducible refine Kd.C_alloc ?_ _) | (with_reducible refine Kd.C_drewN ?_ _) | (with_reducible refine Kd.C_drew ?_))); (case side2 => exact HC0_1.out); (case side3 => exact Glob.below hGA.out zb7); rintro e w69 ⟨rfl, hb⟩; refine ⟨_, rfl, ?_⟩; have n0_ := Aside0.mk (blk_below (g := gb196) (o := .cells #[.int .i64 x197000_7, .slice A0_1 l0_1.length c0_1, .string a0_2] 24 (0, 0)) zb15 hb); have n1_ := Aside0.mk (below_step zb7 hb); clear BK196; clear HB; have BK196 := n0_; have HB := n1_; clear n0_ n1_; (try clear hb); (try clear hb2); (try clear hk); (try clear hi)))
      go_ret
      exact ⟨zb8, zb7⟩
  ·replace c6 := Bool.eq_false_iff.mpr c6
   subst c6
   replace H : (some true) = some r := by rw [if_neg (show ¬ (false = true) by decide)] at H; exact H
   obtain rfl := Option.some.inj H
   go_enter Tryd.func3, Tryd.ntmps3
   go_wp2_with (first | ((with_reducible refine gate_dst (N := 2) rfl ?_); (try (refine gate_guard (by rfl) ?_; dsimp only)); refine box_event ?hg (N := 2) ?hd (cs := #[.int .i64 a0_0, .slice A0_1 l0_1.length c0_1, .string a0_2]) (t := 24) ?hr ?_; (case hd => rfl); (case hg => rfl); (case hr => first | (go_simp; done) | (go_simp; rfl)); intro gb196 hg w70 hbox hb; have n0_ := Aside0.mk (below_step zb0 hb); have n1_ := Aside0.mk (hbox); have n2_ := Aside0.mk ((by rw [hg]; exact (below_size zb0) : w.heap.size ≤ gb196)); have n3_ := Aside0.mk ((by rw [hg]; exact (below_size zb0) : w.heap.size ≤ gb196)); clear HB; have HB := n0_; have BK196 := n1_; have GW196 := n2_; have GE196 := n3_; clear n0_ n1_ n2_ n3_; clear hb hbox hg) | ((with_reducible refine gate_callee (f := 5) rfl ?_); refine goesL_ (some 12) rfl rfl Tryd.func5 zb11 rfl #[] rfl zb1 ?_; (with_reducible refine (broadsheetlaw21_awake.calls k  true _ ?side1 A3.out (by first | rfl | exact hr)).mono ?_); (case side1 => exact Glob.below hGA.out zb7); rintro e w71 ⟨rfl, hb⟩; refine ⟨_, rfl, ?_⟩; have n0_ := Aside0.mk (blk_below (g := gb196) (o := .cells #[.int .i64 a0_0, .slice A0_1 l0_1.length c0_1, .string a0_2] 24 (0, 0)) zb15 hb); have n1_ := Aside0.mk (below_step zb7 hb); clear BK196; clear HB; have BK196 := n0_; have HB := n1_; clear n0_ n1_; (try clear hb); (try clear hb2); (try clear hk); (try clear hi); have hcz72_0 : w71.cell? ⟨gb196, 0, none⟩ = some (.int .i64 a0_0) := (blk_cell BK196.out 0).trans rfl; have hcz72_1 : w71.cell? ⟨gb196, 1, none⟩ = some (.slice A0_1 l0_1.length c0_1) := (blk_cell BK196.out 1).trans rfl; have hcz72_2 : w71.cell? ⟨gb196, 2, none⟩ = some (.string a0_2) := (blk_cell BK196.out 2).trans rfl; have hfz72_0 := blk_frozen BK196.out 0; have hfz72_1 := blk_frozen BK196.out 1; have hfz72_2 := blk_frozen BK196.out 2) | ((with_reducible refine gate_callee (f := 6) rfl ?_); refine goesL_ (some 16) rfl rfl Tryd.func6 zb11 rfl #[.agg #[.int .i64 a0_0, .slice A0_1 l0_1.length c0_1, .string a0_2]] rfl zb1 ?_; (with_reducible refine (broadsheetlaw21_few.calls k a0_0 _ _ l0_1 a0_2 false _ ?side1 ?side2 A5.out).mono ?_); (case side1 => repeat (first | exact (Kd.C_below HR0_1.out HB.out) | (with_reducible refine Kd.C_alloc ?_ _) | (with_reducible refine Kd.C_drewN ?_ _) | (with_reducible refine Kd.C_drew ?_))); (case side2 => exact HC0_1.out); rintro e w73 ⟨rfl, hb⟩; refine ⟨_, rfl, ?_⟩; have n0_ := Aside0.mk (blk_below (g := gb196) (o := .cells #[.int .i64 a0_0, .slice A0_1 l0_1.length c0_1, .string a0_2] 24 (0, 0)) zb15 hb); have n1_ := Aside0.mk (below_step zb7 hb); clear BK196; clear HB; have BK196 := n0_; have HB := n1_; clear n0_ n1_; (try clear hb); (try clear hb2); (try clear hk); (try clear hi)))
   go_ret
   exact ⟨zb8, zb7⟩
 ·replace c4 := Bool.eq_false_iff.mpr c4
  subst c4
  replace H : (some false) = some r := by rw [if_neg (show ¬ (false = true) by decide)] at H; exact H
  exact absurd ((Option.some.inj H).trans hr) zb32
end Go.Proofs.YtaopopnlnohnpaaDoor.P
/- SpX -/
namespace Go.Proofs.YtaopopnlnohnpaaDoor.Sp
open Go Go.RowKit Go.Proofs.YtaopopnlnohnpaaDoorW.PrintWords Go.Proofs.YtaopopnlnohnpaaDoorW.PrintLast Go.Proofs.YtaopopnlnohnpaaDoor.O Go.Proofs.YtaopopnlnohnpaaDoor.P
set_option linter.unusedVariables false
set_option linter.unusedSimpArgs false
def okP (p : L × L) : Bool := isTok p.1 && fval p.2
def prs : List (L × L) → L
  | [] => []
  | p :: r => p.1 ++ 58 :: 32 :: (p.2 ++ 13 :: 10 :: prs r)
def lowP (p : L × L) : L × L := (low p.1, p.2)
/-- The lines of fields, and the error. -/
def printS (l : List (L × L)) : L × Int := if l.all okP = true then (if 8000 < (prs l ++ [13, 10]).length then ([], 2) else (prs l ++ [13, 10], 0)) else ([], 180)
theorem prs_app (a b : List (L × L)) : prs (a ++ b) = prs a ++ prs b := by
  induction a with
  | nil => rfl
  | cons p r ih => simp only [List.cons_append, prs, ih, List.append_assoc]
theorem prs_len (l : List (L × L)) : 4 * l.length ≤ (prs l).length := by
  induction l with
  | nil => simp [prs]
  | cons p r ih =>
    simp only [prs, List.length_append, List.length_cons]
    omega
theorem line13 (a b : L) (h : 13 ∉ a) : line (a ++ 13 :: 10 :: b) = some (a, b) :=
  line_app a b (fun x y e => h (by rw [e]; simp)) (fun e => h (List.mem_of_getLast? e))
theorem tok13 : tokB 13 = false := by decide
theorem fval_13 {v : L} (h : fval v = true) : 13 ∉ v := fun hm => by
  unfold fval at h
  rw [Bool.and_eq_true] at h
  have := List.all_eq_true.1 h.1 13 hm
  exact absurd this (by decide)
theorem fval_trim {v : L} (h : fval v = true) : trim v = v := by
  unfold fval at h
  rw [Bool.and_eq_true] at h
  exact of_decide_eq_true h.2
theorem pairOf_ok {p : L × L} (h : okP p = true) : pairOf (p.1 ++ 58 :: 32 :: p.2) = some (lowP p) := by
  unfold okP at h
  rw [Bool.and_eq_true] at h
  obtain ⟨h1, h2⟩ := h
  obtain ⟨hne, hall⟩ := (isTok_iff p.1).1 h1
  have e := tok_app (a := p.1) (b := 32 :: p.2) (c := 58) hall tok58
  have ht : trim (32 :: p.2) = p.2 := by
    have : trim (32 :: p.2) = trim p.2 := by
      unfold trim
      rw [show skip (32 :: p.2) = skip p.2 from List.dropWhile_cons_of_pos (by decide)]
    rw [this, fval_trim h2]
  unfold pairOf
  rw [e]
  simp only [List.head?_cons, List.tail_cons, ht]
  rw [if_neg hne, if_neg (by simp), if_pos h2]
  rfl
theorem ok13 {p : L × L} (h : okP p = true) : 13 ∉ p.1 ++ 58 :: 32 :: p.2 := by
  unfold okP at h
  rw [Bool.and_eq_true] at h
  obtain ⟨h1, h2⟩ := h
  intro hm
  rcases List.mem_append.1 hm with hm | hm
  · have := ((isTok_iff p.1).1 h1).2 13 hm
    rw [tok13] at this
    cases this
  · simp only [List.mem_cons] at hm
    rcases hm with hm | hm | hm
    · exact absurd hm (by decide)
    · exact absurd hm (by decide)
    · exact fval_13 h2 hm
theorem fparse_prs (N : Nat) (more : L) (hN : N ≤ 8000 + more.length) : ∀ (l : List (L × L)) (f : Nat) (acc : List (L × L)), l.length < f → l.all okP = true → fparse N f (prs l ++ 13 :: 10 :: more) acc = (acc ++ l.map lowP, more, 0) := by
  intro l
  induction l with
  | nil =>
    intro f acc hf _
    obtain ⟨f, rfl⟩ : ∃ f', f = f' + 1 := ⟨f - 1, by simp only [List.length_nil] at hf; omega⟩
    rw [fparse, show prs [] ++ 13 :: 10 :: more = [] ++ 13 :: 10 :: more from rfl, line13 [] more (by simp)]
    simp only
    rw [if_neg (by omega)]
    simp
  | cons p r ih =>
    intro f acc hf h
    simp only [List.length_cons] at hf
    obtain ⟨f, rfl⟩ : ∃ f', f = f' + 1 := ⟨f - 1, by omega⟩
    rw [List.all_cons, Bool.and_eq_true] at h
    have e : prs (p :: r) ++ 13 :: 10 :: more = (p.1 ++ 58 :: 32 :: p.2) ++ 13 :: 10 :: (prs r ++ 13 :: 10 :: more) := by simp [prs]
    rw [fparse, e, line13 _ _ (ok13 h.1)]
    simp only
    rw [if_neg (by rw [List.length_append, List.length_cons, List.length_cons]; omega), if_neg (by simp), pairOf_ok h.1]
    simp only
    rw [ih f (acc ++ [lowP p]) (by omega) h.2]
    simp
theorem fields_prs (l : List (L × L)) (more : L) (h : l.all okP = true) (hl : (prs l).length + 2 ≤ 8000) : fields (prs l ++ 13 :: 10 :: more) = (l.map lowP, more, 0) := by
  have h4 := prs_len l
  unfold fields
  rw [fparse_prs _ more (by rw [List.length_append, List.length_cons, List.length_cons]; omega) l _ [] (by rw [List.length_append]; omega) h, List.nil_append]
theorem low_tok : ∀ a : Fin 256, tokB (lowB (UInt8.ofNat a.val)) = tokB (UInt8.ofNat a.val) ∧ lowB (lowB (UInt8.ofNat a.val)) = lowB (UInt8.ofNat a.val) := by decide +kernel
theorem low_low (s : L) : low (low s) = low s := by
  unfold low
  rw [List.map_map]
  refine List.map_congr_left (fun c _ => ?_)
  obtain ⟨a, rfl⟩ := u8_fin c
  exact (low_tok a).2
theorem isTok_low {s : L} (h : isTok s = true) : isTok (low s) = true := by
  obtain ⟨h1, h2⟩ := (isTok_iff s).1 h
  refine (isTok_iff _).2 ⟨fun e => h1 (List.map_eq_nil_iff.1 e), fun x hx => ?_⟩
  obtain ⟨c, hc, rfl⟩ := List.mem_map.1 hx
  have := h2 c hc
  obtain ⟨a, rfl⟩ := u8_fin c
  rw [(low_tok a).1]
  exact this
theorem tok_len2 (s : L) : (tok s).1.length + (tok s).2.length = s.length := by
  have := congrArg List.length (tok_parts s).1
  rw [List.length_append] at this
  omega
theorem pairOf_back {l : L} {p : L × L} (h : pairOf l = some p) : okP p = true ∧ low p.1 = p.1 ∧ p.1.length + p.2.length + 1 ≤ l.length := by
  have hl := tok_len2 l
  obtain ⟨e1, e2, e3⟩ := tok_parts l
  unfold pairOf at h
  split at h
  · cases h
  · rename_i h0
    split at h
    · cases h
    · rename_i h58
      split at h
      · rename_i hv
        obtain rfl := Option.some.inj h
        have ht : isTok (tok l).1 = true := (isTok_iff _).2 ⟨h0, e2⟩
        have htl := trim_len (tok l).2.tail
        rw [List.length_tail] at htl
        have hpos : 0 < (tok l).2.length := by
          cases hx : (tok l).2 with
          | nil => rw [hx] at h58; simp at h58
          | cons a b => simp
        refine ⟨?_, low_low _, ?_⟩
        · unfold okP
          rw [isTok_low ht, hv]
          rfl
        · simp only [low_len]
          omega
      · cases h
theorem fparse_back (N : Nat) : ∀ (f : Nat) (s : L) (acc : List (L × L)), (fparse N f s acc).2.2 = 0 → acc.all okP = true → (∀ p ∈ acc, low p.1 = p.1) →
    (fparse N f s acc).1.all okP = true ∧ (∀ p ∈ (fparse N f s acc).1, low p.1 = p.1) ∧ (prs (fparse N f s acc).1).length + 2 + 2 * (fparse N f s acc).2.1.length ≤ (prs acc).length + 2 * s.length := by
  intro f
  induction f with
  | zero => intro s acc h; simp [fparse] at h
  | succ f ih =>
    intro s acc h ha hlw
    rw [fparse] at h ⊢
    cases e : line s with
    | none =>
      rw [e] at h
      simp only at h
      split at h <;> cases h
    | some q =>
      obtain ⟨l, more⟩ := q
      have hll := congrArg List.length (line_len s _ e)
      simp only [List.length_append, List.length_cons] at hll
      rw [e] at h
      simp only at h ⊢
      by_cases h8 : N - more.length > 8000
      · rw [if_pos h8] at h
        simp only at h
        split at h <;> cases h
      · rw [if_neg h8] at h ⊢
        by_cases h0 : l = []
        · rw [if_pos h0]
          exact ⟨ha, hlw, by simp only; omega⟩
        · rw [if_neg h0] at h ⊢
          cases e2 : pairOf l with
          | none => rw [e2] at h; cases h
          | some p =>
            rw [e2] at h
            simp only at h ⊢
            obtain ⟨g1, g2, g3⟩ := pairOf_back e2
            obtain ⟨k1, k2, k3⟩ := ih more (acc ++ [p]) h (by rw [List.all_append, ha]; simp [g1]) (fun x hx => by
              rcases List.mem_append.1 hx with hx | hx
              · exact hlw x hx
              · rw [List.mem_singleton.1 hx]; exact g2)
            refine ⟨k1, k2, ?_⟩
            rw [prs_app] at k3
            simp only [prs, List.length_append, List.length_cons, List.length_nil] at k3
            have hp : 0 < l.length := List.length_pos_iff.2 h0
            omega
theorem fields_back (s : L) (h : (fields s).2.2 = 0) : (fields s).1.all okP = true ∧ (∀ p ∈ (fields s).1, low p.1 = p.1) ∧ (prs (fields s).1).length + 2 + 2 * (fields s).2.1.length ≤ 2 * s.length := by
  have := fparse_back s.length (s.length + 1) s [] h rfl (by simp)
  unfold fields
  simpa [prs] using this
theorem w1 (i : Nat) (h : i ≤ 1000000000000) : wrap64 ((i : Int) + 1) = ((i + 1 : Nat) : Int) := by rw [wrap_id (by omega) (by omega)]; omega
theorem w2 (i : Nat) (h : i ≤ 1000000000000) : wrap64 ((i : Int) + 2) = ((i + 2 : Nat) : Int) := by rw [wrap_id (by omega) (by omega)]; omega
def nums (l : L) : List Int := l.map fun b => (b.toNat : Int)
theorem nums_str (l : L) : strOfNums (nums l) = mk l := by
  unfold strOfNums nums mk
  rw [List.map_map]
  have e : ((fun n : Int => UInt8.ofNat n.toNat) ∘ fun b : UInt8 => (b.toNat : Int)) = id := by
    funext b
    simp
  rw [e, List.map_id]
theorem nums_snoc (l : L) (b : UInt8) : nums l ++ [(b.toNat : Int)] = nums (l ++ [b]) := by simp [nums]
theorem nums_len (l : L) : (nums l).length = l.length := by simp [nums]
theorem lowB_int (b : UInt8) (h : 65 ≤ b.toNat ∧ b.toNat ≤ 90) : (((b.toNat : Int) + 32) % 256) = ((lowB b).toNat : Int) := by
  unfold lowB
  rw [if_pos h, UInt8.toNat_ofNat']
  omega
theorem rlow_l0 (s : L) (hs : s.length ≤ 1000000000000) : ∀ (d k i : Nat) (acc : L), i + d = s.length → d < k → acc.length ≤ i → broadsheetref07_Lower.l0 k (mk s) (nums acc) i = some (mk (acc ++ low (s.drop i))) := by
  intro d
  induction d with
  | zero =>
    intro k i acc hi hk ha
    obtain ⟨k, rfl⟩ : ∃ k', k = k' + 1 := ⟨k - 1, by omega⟩
    rw [broadsheetref07_Lower.l0, if_neg (by rw [mk_size]; omega), List.drop_eq_nil_of_le (by omega), nums_str]
    simp [low]
  | succ d ih =>
    intro k i acc hi hk ha
    obtain ⟨k, rfl⟩ : ∃ k', k = k' + 1 := ⟨k - 1, by omega⟩
    obtain ⟨b, e1, e2⟩ := mk_bt s i (by omega)
    have hlen : (nums acc).length < 140737488355328 := by rw [nums_len]; omega
    rw [broadsheetref07_Lower.l0, if_pos (by rw [mk_size]; omega), if_pos (by omega), e2, w1 i (by omega)]
    have hfin : ∀ x : UInt8, x = lowB b → broadsheetref07_Lower.l0 k (mk s) (nums acc ++ [(x.toNat : Int)]) ((i + 1 : Nat) : Int) = some (mk (acc ++ low (s.drop i))) := fun x hx => by
      rw [nums_snoc, ih k (i + 1) (acc ++ [x]) (by omega) (by omega) (by simp; omega), e1, hx]
      simp [low]
    by_cases h1 : (b.toNat : Int) ≥ 65
    · rw [if_pos h1]
      by_cases h2 : (b.toNat : Int) ≤ 90
      · rw [if_pos h2, if_pos hlen, lowB_int b (by omega)]
        exact hfin _ rfl
      · rw [if_neg h2, if_pos hlen]
        exact hfin b (by unfold lowB; rw [if_neg (by omega)])
    · rw [if_neg h1, if_pos hlen]
      exact hfin b (by unfold lowB; rw [if_neg (by omega)])
theorem rlowF (s : L) (k : Nat) (hs : s.length ≤ 1000000000000) (hk : s.length < k) : broadsheetref07_Lower.f k (mk s) = some (mk (low s)) := by
  have := rlow_l0 s hs s.length k 0 [] (by omega) hk (by simp)
  rwa [List.nil_append, List.drop_zero] at this
def fldB (r : List (L × L) × L × Int) : List S35 × ByteArray × Int := (pairsB r.1, mk r.2.1, r.2.2)
def vals (l : List (L × L)) (n : L) : List L := (l.filter fun p => low p.1 == low n).map (·.2)
def get (l : List (L × L)) (n : L) : L × Int := (Lib.join (vals l n) [44, 32], ((vals l n).length : Int))
theorem rd_pairs (l : List (L × L)) (i : Nat) (p : L × L) (h : l[i]? = some p) : rd_T35 (pairsB l) (i : Int) = ⟨mk p.1, mk p.2⟩ := by
  unfold rd_T35 pairsB
  rw [Int.toNat_natCast, List.getD_eq_getElem?_getD, List.getElem?_map, h]
  rfl
theorem vals_cons (p : L × L) (r : List (L × L)) (n : L) : vals (p :: r) n = if low p.1 = low n then p.2 :: vals r n else vals r n := by
  unfold vals
  by_cases h : low p.1 = low n
  · rw [List.filter_cons_of_pos (by simp [h]), if_pos h]
    rfl
  · rw [List.filter_cons_of_neg (by simp [h]), if_neg h]
theorem get_l0 (l : List (L × L)) (n : L) (hn : n.length ≤ 1000000) (hl : l.length ≤ 1000000) (hp : ∀ p ∈ l, p.1.length ≤ 1000000) : ∀ (d k i : Nat) (acc : List L), i + d = l.length → d < k → acc.length ≤ i → (Lib.join (acc ++ vals (l.drop i) n) [44, 32]).length ≤ 140737488355328 →
    field_Get.l0 k (mk n) (acc.map mk) (pairsB l) (l.length : Int) (i : Int) = some (mk (Lib.join (acc ++ vals (l.drop i) n) [44, 32]), ((acc ++ vals (l.drop i) n).length : Int)) := by
  intro d
  induction d with
  | zero =>
    intro k i acc hi hk ha hj
    obtain ⟨k, rfl⟩ : ∃ k', k = k' + 1 := ⟨k - 1, by omega⟩
    rw [List.drop_eq_nil_of_le (by omega)] at hj ⊢
    rw [show vals [] n = [] from rfl, List.append_nil] at hj ⊢
    have hm : (acc.map mk).map (·.data.toList) = acc := by rw [List.map_map]; conv => rhs; rw [← List.map_id acc]
                                                           exact List.map_congr_left (fun x _ => mk_data x)
    rw [field_Get.l0, if_neg (by omega), strings_Join.f]
    unfold joinB
    rw [hm, show (⟨#[44, 32]⟩ : ByteArray).data.toList = [44, 32] from rfl, if_pos ⟨by rw [List.length_map]; omega, hj⟩]
    simp only [Option.bind_some, List.length_map]
    rfl
  | succ d ih =>
    intro k i acc hi hk ha hj
    obtain ⟨k, rfl⟩ : ∃ k', k = k' + 1 := ⟨k - 1, by omega⟩
    have hlt : i < l.length := by omega
    have hw : wrap64 ((i : Int) + 1) = ((i + 1 : Nat) : Int) := by rw [wrap_id (by omega) (by omega)]; omega
    have hmem := hp l[i] (List.getElem_mem hlt)
    rw [List.drop_eq_getElem_cons hlt, vals_cons] at hj ⊢
    rw [field_Get.l0, if_pos (by omega), if_pos (by omega), if_pos (by rw [pairsB_len]; omega), rd_pairs l i l[i] (List.getElem?_eq_getElem hlt), lowF _ (by omega), Option.bind_some, lowF _ (by omega), Option.bind_some, tl_mk, tl_mk]
    by_cases h : low l[i].1 = low n
    · rw [if_pos h] at hj ⊢
      rw [if_pos h, if_pos (by rw [List.length_map]; omega), hw]
      have := ih k (i + 1) (acc ++ [l[i].2]) (by omega) (by omega) (by rw [List.length_append, List.length_singleton]; omega) (by rw [List.append_assoc]; exact hj)
      rw [List.map_append, List.append_assoc] at this
      exact this
    · rw [if_neg h] at hj ⊢
      rw [if_neg h, hw]
      exact ih k (i + 1) acc (by omega) (by omega) (by omega) hj
theorem getF (l : List (L × L)) (n : L) (k : Nat) (hn : n.length ≤ 1000000) (hl : l.length ≤ 1000000) (hp : ∀ p ∈ l, p.1.length ≤ 1000000) (hj : (get l n).1.length ≤ 140737488355328) (hk : l.length < k) : field_Get.f k (pairsB l) (mk n) = some (mk (get l n).1, (get l n).2) := by
  have := get_l0 l n hn hl hp l.length k 0 [] (by omega) hk (by simp) (by simpa [get] using hj)
  unfold field_Get.f
  rw [pairsB_len]
  simpa [get] using this
theorem pairOf_len {l : L} {p : L × L} (h : pairOf l = some p) : p.1.length ≤ l.length ∧ p.2.length ≤ l.length := by
  have h1 : (tok l).1.length ≤ l.length := tw_len _ _
  have h2 : (tok l).2.length ≤ l.length := dw_len _ _
  unfold pairOf at h
  split at h
  · cases h
  · split at h
    · cases h
    · split at h
      · obtain rfl := Option.some.inj h
        have := trim_len (tok l).2.tail
        rw [List.length_tail] at this
        exact ⟨by rw [low_len]; exact h1, by simp only; omega⟩
      · cases h
theorem fparse_len (N M : Nat) : ∀ (f : Nat) (s : L) (acc : List (L × L)), s.length ≤ M → acc.length + s.length ≤ M → (∀ p ∈ acc, p.1.length ≤ M ∧ p.2.length ≤ M) →
    (fparse N f s acc).1.length ≤ M ∧ (∀ p ∈ (fparse N f s acc).1, p.1.length ≤ M ∧ p.2.length ≤ M) ∧ (fparse N f s acc).2.1.length ≤ M := by
  intro f
  induction f with
  | zero => intro s acc _ _ _; simp [fparse]
  | succ f ih =>
    intro s acc hs ha hp
    rw [fparse]
    cases e : line s with
    | none => simp
    | some p =>
      obtain ⟨l, more⟩ := p
      have hl := congrArg List.length (line_len s _ e)
      simp only [List.length_append, List.length_cons] at hl
      simp only
      split
      · simp
      · split
        · exact ⟨by simp only; omega, hp, by simp only; omega⟩
        · cases e2 : pairOf l with
          | none => simp
          | some q =>
            have hq := pairOf_len e2
            refine ih more (acc ++ [q]) (by omega) (by rw [List.length_append, List.length_singleton]; omega) (fun p hpm => ?_)
            rcases List.mem_append.1 hpm with hpm | hpm
            · exact hp p hpm
            · obtain rfl := List.mem_singleton.1 hpm
              exact ⟨by omega, by omega⟩
theorem fields_len (s : L) : (fields s).1.length ≤ s.length ∧ (∀ p ∈ (fields s).1, p.1.length ≤ s.length ∧ p.2.length ≤ s.length) ∧ (fields s).2.1.length ≤ s.length :=
  fparse_len s.length s.length _ s [] (Nat.le_refl _) (by simp) (by simp)
theorem joinTail_len (M : Nat) (r : List L) (h : ∀ x ∈ r, x.length ≤ M) : (Lib.joinTail [44, 32] r).length ≤ r.length * (M + 2) := by
  induction r with
  | nil => simp [Lib.joinTail]
  | cons x r ih =>
    have h1 := ih (fun y hy => h y (List.mem_cons_of_mem _ hy))
    have h2 := h x List.mem_cons_self
    have e : Lib.joinTail [44, 32] (x :: r) = [44, 32] ++ x ++ Lib.joinTail [44, 32] r := by simp [Lib.joinTail]
    rw [e]
    simp only [List.length_append, List.length_cons, List.length_nil]
    rw [Nat.add_mul, Nat.one_mul]
    omega
theorem join_len (M : Nat) (l : List L) (h : ∀ x ∈ l, x.length ≤ M) : (Lib.join l [44, 32]).length ≤ l.length * (M + 2) := by
  cases l with
  | nil => simp [Lib.join_nil]
  | cons x r =>
    have h1 := joinTail_len M r (fun y hy => h y (List.mem_cons_of_mem _ hy))
    have h2 := h x List.mem_cons_self
    rw [Lib.join_cons, List.length_append, List.length_cons, Nat.succ_mul]
    omega
theorem vals_len (l : List (L × L)) (n : L) : (vals l n).length ≤ l.length := by
  unfold vals
  rw [List.length_map]
  exact List.length_filter_le _ _
theorem get_len (l : List (L × L)) (n : L) (M : Nat) (h : ∀ p ∈ l, p.2.length ≤ M) : (get l n).1.length ≤ l.length * (M + 2) := by
  have h1 := join_len M (vals l n) (fun x hx => by
    unfold vals at hx
    obtain ⟨p, hp, rfl⟩ := List.mem_map.1 hx
    exact h p (List.mem_filter.1 hp).1)
  exact Nat.le_trans h1 (Nat.mul_le_mul_right _ (vals_len l n))
end Go.Proofs.YtaopopnlnohnpaaDoor.Sp
/- Px16 -/
namespace Go.Proofs.YtaopopnlnohnpaaDoor.P
open Go.Proofs.YtaopopnlnohnpaaDoor.B
open Go.RowKit Go.Proofs.YtaopopnlnohnpaaDoorW.PrintWords Go.Proofs.YtaopopnlnohnpaaDoorW.PrintLast Go.Proofs.YtaopopnlnohnpaaDoorW.PrintMore
attribute [local go_sem] str_leq str_gtr str_geq max2_int min2_int max_two min_two max_three min_three max_four min_four
set_option linter.unusedVariables false
set_option linter.unusedSimpArgs false
attribute [local go_sem high] eqA35
end Go.Proofs.YtaopopnlnohnpaaDoor.P
/- SpU -/
namespace Go.Proofs.YtaopopnlnohnpaaDoor.Sp
open Go Go.RowKit Go.Proofs.YtaopopnlnohnpaaDoorW.PrintWords Go.Proofs.YtaopopnlnohnpaaDoorW.PrintLast Go.Proofs.YtaopopnlnohnpaaDoor.O Go.Proofs.YtaopopnlnohnpaaDoor.P
set_option linter.unusedVariables false
set_option linter.unusedSimpArgs false
theorem get_bound (l : List (L × L)) (n : L) (hl : l.length ≤ 100000) (hp : ∀ p ∈ l, p.1.length ≤ 100000 ∧ p.2.length ≤ 100000) : (get l n).1.length ≤ 10000200000 :=
  Nat.le_trans (get_len _ _ 100000 (fun p h => (hp p h).2)) (Nat.mul_le_mul (show l.length ≤ 100000 from hl) (Nat.le_refl 100002))
/-- What is told of fields, behind what is told already. -/
def printA (acc : L) (l : List (L × L)) : L × Int := if l.all okP = true then (if 8000 < (acc ++ prs l ++ [13, 10]).length then ([], 2) else (acc ++ prs l ++ [13, 10], 0)) else ([], 180)
theorem printA_nil (l : List (L × L)) : printA [] l = printS l := rfl
theorem printA_cons (acc : L) (p : L × L) (l : List (L × L)) : printA acc (p :: l) = if okP p = true then printA (acc ++ (p.1 ++ 58 :: 32 :: (p.2 ++ [13, 10]))) l else ([], 180) := by
  have e : acc ++ prs (p :: l) ++ [13, 10] = acc ++ (p.1 ++ 58 :: 32 :: (p.2 ++ [13, 10])) ++ prs l ++ [13, 10] := by simp [prs]
  unfold printA
  rw [e, List.all_cons]
  by_cases h : okP p = true
  · rw [if_pos h, h, Bool.true_and]
  · rw [if_neg h, Bool.eq_false_iff.2 h, Bool.false_and, if_neg (by decide)]
theorem wsF (a b : L) (h : a.length + b.length ≤ 100000000000) : ∃ n e, Builder_WriteString.f (mk a) (mk b) = some (n, e, mk (a ++ b)) := by
  unfold Builder_WriteString.f
  rw [if_pos (by rw [mk_size, mk_size]; omega), mk_append]
  exact ⟨_, _, rfl⟩
theorem okP_parts (p : L × L) : okP p = (isTok p.1 && fval p.2) := rfl
theorem fprint_l0 (l : List (L × L)) (hl : l.length ≤ 100000) (hp : ∀ p ∈ l, p.1.length ≤ 100000 ∧ p.2.length ≤ 100000) : ∀ (d k i : Nat) (acc : L), i + d = l.length → d + 100002 < k → acc.length + d * 300000 ≤ 90000000000 →
    field_Print.l0 k (pairsB l) (l.length : Int) (i : Int) (mk acc) = some (mk (printA acc (l.drop i)).1, (printA acc (l.drop i)).2) := by
  intro d
  induction d with
  | zero =>
    intro k i acc hi hk ha
    obtain ⟨k, rfl⟩ : ∃ k', k = k' + 1 := ⟨k - 1, by omega⟩
    rw [List.drop_eq_nil_of_le (by omega), field_Print.l0, if_neg (by omega), show (⟨#[13, 10]⟩ : ByteArray) = mk [13, 10] from rfl]
    obtain ⟨n, e, hw⟩ := wsF acc [13, 10] (by simp only [List.length_cons, List.length_nil]; omega)
    rw [hw, Option.bind_some, Builder_Len.f, Option.bind_some]
    unfold printA
    simp only [List.all_nil, if_true, prs, List.append_nil, mk_size]
    by_cases h : 8000 < (acc ++ [13, 10]).length
    · rw [if_pos (by omega), if_pos h]; rfl
    · rw [if_neg (by omega), if_neg h, Builder_String.f, Option.bind_some]
  | succ d ih =>
    intro k i acc hi hk ha
    obtain ⟨k, rfl⟩ : ∃ k', k = k' + 1 := ⟨k - 1, by omega⟩
    have hlt : i < l.length := by omega
    obtain ⟨h1, h2⟩ := hp l[i] (List.getElem_mem hlt)
    rw [List.drop_eq_getElem_cons hlt, printA_cons, okP_parts]
    rw [field_Print.l0, if_pos (by omega), if_pos (by omega), if_pos (by rw [pairsB_len]; omega), rd_pairs l i l[i] (List.getElem?_eq_getElem hlt)]
    simp only
    rw [isTokF _ k (by omega) (by omega), Option.bind_some, fvalF _ (by omega), Option.bind_some]
    by_cases ht : isTok l[i].1 = true
    · by_cases hv : fval l[i].2 = true
      · have e1 : (⟨#[58, 32]⟩ : ByteArray) = mk [58, 32] := rfl
        have e2 : (⟨#[13, 10]⟩ : ByteArray) = mk [13, 10] := rfl
        rw [if_pos ht, if_pos hv, e1, e2, mk_append, mk_append, mk_append, if_pos (by rw [mk_size]; omega), if_pos (by rw [mk_size, mk_size, List.length_append]; simp only [List.length_cons, List.length_nil]; omega), if_pos (by rw [mk_size, List.length_append, List.length_append]; simp only [List.length_cons, List.length_nil]; omega)]
        obtain ⟨n, e, hw⟩ := wsF acc (l[i].1 ++ [58, 32] ++ l[i].2 ++ [13, 10]) (by simp only [List.length_append, List.length_cons, List.length_nil]; omega)
        rw [hw, Option.bind_some, w1 i (by omega)]
        simp only
        rw [ih k (i + 1) _ (by omega) (by omega) (by simp only [List.length_append, List.length_cons, List.length_nil]; omega)]
        simp [ht, hv]
      · rw [if_pos ht, if_neg hv]
        simp [ht, hv]
        rfl
    · rw [if_neg ht]
      simp [ht]
      rfl
theorem fprintF (l : List (L × L)) (k : Nat) (hl : l.length ≤ 16000) (hp : ∀ p ∈ l, p.1.length ≤ 100000 ∧ p.2.length ≤ 100000) (hk : 200000 ≤ k) : field_Print.f k (pairsB l) = some (mk (printS l).1, (printS l).2) := by
  have := fprint_l0 l (by omega) hp l.length k 0 [] (by omega) (by omega) (by simp; omega)
  unfold field_Print.f
  rw [pairsB_len]
  rw [List.drop_zero, printA_nil] at this
  exact this
end Go.Proofs.YtaopopnlnohnpaaDoor.Sp
/- SpQ -/
namespace Go.Proofs.YtaopopnlnohnpaaDoor.Mn
open Go.RowKit Go.Proofs.YtaopopnlnohnpaaDoorW.PrintWords Go.Proofs.YtaopopnlnohnpaaDoorW.PrintLast Go.Proofs.YtaopopnlnohnpaaDoor.O
set_option linter.unusedVariables false
set_option linter.unusedSimpArgs false
abbrev L := List UInt8
def cut (c : UInt8) : L → List L
  | [] => [[]]
  | x :: r => if x = c then [] :: cut c r else match cut c r with
    | [] => [[x]]
    | y :: z => (x :: y) :: z
theorem cut_ne (c : UInt8) (l : L) : cut c l ≠ [] := by
  cases l with
  | nil => simp [cut]
  | cons x r =>
    unfold cut
    split
    · simp
    · split <;> simp
theorem cut_other (c x : UInt8) (r : L) (h : x ≠ c) : ∃ y z, cut c r = y :: z ∧ cut c (x :: r) = (x :: y) :: z := by
  cases e : cut c r with
  | nil => exact absurd e (cut_ne c r)
  | cons y z => exact ⟨y, z, rfl, by simp [cut, h, e]⟩
theorem cut_none (c : UInt8) : ∀ (a : L), c ∉ a → cut c a = [a]
  | [], _ => rfl
  | x :: a, h => by
    obtain ⟨y, z, e1, e2⟩ := cut_other c x a (fun e => h (by simp [e]))
    rw [cut_none c a (fun e => h (by simp [e]))] at e1
    obtain ⟨rfl, rfl⟩ := List.cons.inj e1
    exact e2
theorem dec_len (k : Nat) : ∀ u, u < 10 ^ (k + 1) → (Lib.decDigits u).length ≤ k + 1 := by
  induction k with
  | zero =>
    intro u h
    rw [Lib.decDigits, dif_pos (by omega)]
    simp
  | succ k ih =>
    intro u h
    rw [Lib.decDigits]
    split
    · simp
    · have := ih (u / 10) (by rw [Nat.pow_succ] at h; omega)
      simp only [List.length_append, List.length_singleton]
      omega
/-- The reader of numerals that the document has. -/
def dec (n : Int) : L := Lib.decDigits n.toNat
theorem itoa_dec (n : Int) (h : 0 ≤ n) : Lib.itoa n = dec n := by
  unfold Lib.itoa dec
  rw [if_neg (by omega)]
end Go.Proofs.YtaopopnlnohnpaaDoor.Mn
/- SpL -/
namespace Go.Proofs.YtaopopnlnohnpaaDoor.Sp
open Go Go.RowKit Go.Proofs.YtaopopnlnohnpaaDoorW.PrintWords Go.Proofs.YtaopopnlnohnpaaDoorW.PrintLast Go.Proofs.YtaopopnlnohnpaaDoor.O Go.Proofs.YtaopopnlnohnpaaDoor.P
set_option linter.unusedVariables false
set_option linter.unusedSimpArgs false
theorem fldF (s : L) (hs : s.length < 4294967281) : field_Parse.f (mk s) = some (fldB (fields s)) := by
  unfold field_Parse.f fieldsB
  rw [if_pos (by rw [mk_size]; exact hs), mk_data]
  rfl
theorem line_cut (s : L) : (line s = none ∧ Lib.cut s [13, 10] = (s, [], false)) ∨ (∃ p, line s = some p ∧ Lib.cut s [13, 10] = (p.1, p.2, true)) := by
  cases e : line s with
  | none =>
    have hb : lineB (mk s) = none := by unfold lineB; rw [mk_data, e]; rfl
    have := cut_none (mk s) hb
    rw [mk_data] at this
    exact .inl ⟨rfl, this⟩
  | some p =>
    have hb : lineB (mk s) = some (mk p.1, mk p.2) := by unfold lineB; rw [mk_data, e]; rfl
    have := cut_some (mk s) (mk p.1) (mk p.2) hb
    rw [mk_data, mk_data, mk_data] at this
    exact .inr ⟨p, rfl, this⟩
def sts : List Int := [200, 201, 204, 304, 400, 404, 405, 406, 409, 412, 413, 415, 431, 500, 503, 507]
theorem reason_out {n : Int} (h : n ∉ sts) : reasonS n = [] := by
  simp only [sts, List.mem_cons, List.not_mem_nil, or_false, not_or] at h
  obtain ⟨h0, h1, h2, h3, h4, h5, h6, h7, h8, h9, h10, h11, h12, h13, h14, h15⟩ := h
  unfold reasonS reasonL
  simp only [List.foldl_cons, List.foldl_nil]
  rw [if_neg (fun e => h15 e.symm), if_neg (fun e => h14 e.symm), if_neg (fun e => h13 e.symm), if_neg (fun e => h12 e.symm), if_neg (fun e => h11 e.symm), if_neg (fun e => h10 e.symm), if_neg (fun e => h9 e.symm), if_neg (fun e => h8 e.symm), if_neg (fun e => h7 e.symm), if_neg (fun e => h6 e.symm), if_neg (fun e => h5 e.symm), if_neg (fun e => h4 e.symm), if_neg (fun e => h3 e.symm), if_neg (fun e => h2 e.symm), if_neg (fun e => h1 e.symm), if_neg (fun e => h0 e.symm)]
theorem reason_in {n : Int} (h : reasonS n ≠ []) : n ∈ sts := by
  by_cases hn : n ∈ sts
  · exact hn
  · exact absurd (reason_out hn) h
theorem reason_ne : ∀ n ∈ sts, reasonS n ≠ [] := by decide +kernel
theorem sts_bd : ∀ n ∈ sts, 200 ≤ n ∧ n ≤ 507 := by decide +kernel
theorem reason_len : ∀ n ∈ sts, (reasonS n).length ≤ 40 := by decide +kernel
theorem reasonF (n : Int) (h1 : -9223372036854775808 ≤ n) (h2 : n ≤ 9223372036854775807) : response_Reason.f n = some (mk (reasonS n)) := by
  unfold response_Reason.f
  rw [if_pos ⟨h1, h2⟩]
  rfl
def bareI (n : Int) : Bool := decide (n = 204) || decide (n = 304)
theorem bareF (n : Int) : response_bare.f n = some (bareI n) := by
  unfold response_bare.f bareI
  by_cases h : n = 204
  · rw [if_pos h]; simp [h]
  · rw [if_neg h]
    by_cases h2 : n = 304 <;> simp [h, h2]
theorem itoF (n : Int) (h0 : 0 ≤ n) (h : n < 1000000000000) : strconv_Itoa.f n = some (mk (Mn.dec n)) := by
  unfold strconv_Itoa.f
  rw [if_pos ⟨by omega, by omega⟩, Mn.itoa_dec n h0]
  rfl
theorem dec_ln (n : Int) (h : n < 1000000000000) : (Mn.dec n).length ≤ 12 := Mn.dec_len 11 n.toNat (by omega)
def dig3 (n : Nat) : L := [UInt8.ofNat (48 + n / 100), UInt8.ofNat (48 + n / 10 % 10), UInt8.ofNat (48 + n % 10)]
theorem dec3 (n : Nat) (h1 : 100 ≤ n) (h2 : n < 1000) : Lib.decDigits n = dig3 n := by
  rw [Lib.decDigits, dif_neg (by omega), Lib.decDigits, dif_neg (by omega), Lib.decDigits, dif_pos (by omega)]
  unfold dig3
  rw [Nat.div_div_eq_div_mul]
  rfl
def verL : L := [72, 84, 84, 80, 47, 49, 46, 49, 32]
def firstL (n : Int) : L := verL ++ dig3 n.toNat ++ [32] ++ reasonS n
theorem dec_sts {n : Int} (h : n ∈ sts) : Mn.dec n = dig3 n.toNat := by
  have := sts_bd n h
  exact dec3 n.toNat (by omega) (by omega)
theorem firstF {n : Int} (h : n ∈ sts) : response_first.f n = some (mk (firstL n)) := by
  have hb := sts_bd n h
  have hr := reason_len n h
  have e1 : (⟨#[72, 84, 84, 80, 47, 49, 46, 49, 32]⟩ : ByteArray) = mk verL := rfl
  have e2 : (⟨#[32]⟩ : ByteArray) = mk [32] := rfl
  have hd : (dig3 n.toNat).length = 3 := rfl
  have hv : verL.length = 9 := rfl
  unfold response_first.f
  rw [itoF n (by omega) (by omega), Option.bind_some, dec_sts h, e1, e2, mk_append, mk_append, if_pos (by rw [mk_size, hd]; omega), if_pos (by rw [mk_size, List.length_append, hd, hv]; omega), reasonF n (by omega) (by omega), Option.bind_some, if_pos (by rw [mk_size, mk_size]; simp only [List.length_append, hd, hv, List.length_singleton]; omega), mk_append]
  rfl
def statusS (l : L) : Int := (sts.find? fun n => decide (l = firstL n)).getD 0
theorem status_of {n : Int} (h : n ∈ sts) : statusS (firstL n) = n := by
  revert n
  show ∀ n ∈ sts, statusS (firstL n) = n
  decide +kernel
theorem status_no {l : L} (h : ∀ n ∈ sts, l ≠ firstL n) : statusS l = 0 := by
  unfold statusS
  rw [List.find?_eq_none.2 (fun n hn => by simpa using h n hn)]
  rfl
theorem status_cases (l : L) : (∃ n ∈ sts, l = firstL n ∧ statusS l = n) ∨ ((∀ n ∈ sts, l ≠ firstL n) ∧ statusS l = 0) := by
  by_cases h : ∃ n ∈ sts, l = firstL n
  · obtain ⟨n, h1, rfl⟩ := h
    exact .inl ⟨n, h1, rfl, status_of h1⟩
  · exact .inr ⟨fun n hn e => h ⟨n, hn, e⟩, status_no (fun n hn e => h ⟨n, hn, e⟩)⟩
theorem atoi_rng (l : L) : -9223372036854775808 ≤ (atoiF l).1 ∧ (atoiF l).1 ≤ 9223372036854775807 := by
  unfold atoiF
  match h : Lib.atoiAll l with
  | Lib.NumEnd.syntax => simp only; decide
  | .range =>
    simp only
    unfold Lib.atoiSat
    split <;> decide
  | .ok v =>
    simp only
    unfold Lib.atoiAll at h
    split at h
    · cases h
    · simp only at h
      split at h
      · cases h
      · cases h
      · split at h
        · cases h
        · rename_i h1
          split at h
          · cases h
          · rename_i h2
            injection h with h
            split at h <;> omega
theorem stat_at : ∀ n ∈ sts, (atoiF (Lib.cut (Lib.trimPrefix (firstL n) verL) [32]).1).1 = n := by
  decide +kernel
theorem statusF (l : L) (h : l.length ≤ 4000000000) : response_status.f (mk l) = some (statusS l) := by
  have htl : (Lib.trimPrefix l verL).length ≤ l.length := by
    unfold Lib.trimPrefix
    split
    · rw [List.length_drop]; omega
    · exact Nat.le_refl _
  have hcl : (Lib.cut (Lib.trimPrefix l verL) [32]).1.length ≤ l.length := by
    rcases index1 32 (Lib.trimPrefix l verL) with ⟨e1, _⟩ | ⟨x, y, e1, e2, _⟩
    · rw [cut1_none e1]; exact htl
    · have e := cut1_some x y e2
      rw [← e1] at e
      rw [e]
      have := congrArg List.length e1
      rw [List.length_append] at this
      simp only
      omega
  obtain ⟨v1, v2⟩ := atoi_rng (Lib.cut (Lib.trimPrefix l verL) [32]).1
  have hst := stat_at
  unfold response_status.f strings_TrimPrefix.f
  rw [Option.bind_some, show (⟨#[72, 84, 84, 80, 47, 49, 46, 49, 32]⟩ : ByteArray) = mk verL from rfl, mk_data, mk_data, show (⟨(Lib.trimPrefix l verL).toArray⟩ : ByteArray) = mk (Lib.trimPrefix l verL) from rfl, show (⟨#[32]⟩ : ByteArray) = mk [32] from rfl, cut_l, if_pos (by omega), Option.bind_some]
  simp only
  unfold strconv_Atoi.f
  rw [if_pos (by rw [mk_size]; omega), Option.bind_some, mk_data]
  have key : ∀ v : Int, -9223372036854775808 ≤ v → v ≤ 9223372036854775807 → (∀ n ∈ sts, l = firstL n → v = n) → ((response_Reason.f v).bind fun t145 => (if t145.toList = ([] : List UInt8) then (some 0) else ((response_first.f v).bind fun t146 => (if t146.toList = (mk l).toList then (some v) else (some 0))))) = some (statusS l) := by
    intro v h1 h2 hv
    rw [reasonF v h1 h2, Option.bind_some, tl_mk]
    rcases status_cases l with ⟨n, hn, e1, e2⟩ | ⟨hno, e2⟩
    · obtain rfl := hv n hn e1
      rw [if_neg (reason_ne v hn), firstF hn, Option.bind_some, tl_mk, tl_mk, if_pos e1.symm, e2]
    · rw [e2]
      by_cases hr : reasonS v = []
      · rw [if_pos hr]
      · rw [if_neg hr, firstF (reason_in hr), Option.bind_some, tl_mk, tl_mk, if_neg (fun e => hno v (reason_in hr) e.symm)]
  have hk := key (atoiF (Lib.cut (Lib.trimPrefix l verL) [32]).1).1 v1 v2 (fun n hn e => by rw [e]; exact hst n hn)
  by_cases hi : (atoiF (Lib.cut (Lib.trimPrefix l verL) [32]).1).2.isNone = true
  · rw [if_pos hi]; exact hk
  · rw [if_neg hi]; exact hk
end Go.Proofs.YtaopopnlnohnpaaDoor.Sp
/- Px17 -/
namespace Go.Proofs.YtaopopnlnohnpaaDoor.P
open Go.Proofs.YtaopopnlnohnpaaDoor.B
open Go.RowKit Go.Proofs.YtaopopnlnohnpaaDoorW.PrintWords Go.Proofs.YtaopopnlnohnpaaDoorW.PrintLast Go.Proofs.YtaopopnlnohnpaaDoorW.PrintMore
attribute [local go_sem] str_leq str_gtr str_geq max2_int min2_int max_two min_two max_three min_three max_four min_four
set_option linter.unusedVariables false
set_option linter.unusedSimpArgs false
end Go.Proofs.YtaopopnlnohnpaaDoor.P
/- SpYc -/
namespace Go.Proofs.YtaopopnlnohnpaaDoor.Sp
open Go Go.RowKit Go.Proofs.YtaopopnlnohnpaaDoorW.PrintWords Go.Proofs.YtaopopnlnohnpaaDoorW.PrintLast Go.Proofs.YtaopopnlnohnpaaDoor.O Go.Proofs.YtaopopnlnohnpaaDoor.P
set_option linter.unusedVariables false
set_option linter.unusedSimpArgs false
def clenL : L := [99, 111, 110, 116, 101, 110, 116, 45, 108, 101, 110, 103, 116, 104]
def CLenL : L := [67, 111, 110, 116, 101, 110, 116, 45, 76, 101, 110, 103, 116, 104]
def withLen (n : Int) (l : List (L × L)) (b : L) : List (L × L) := if bareI n = true then l else l ++ [(CLenL, Mn.dec b.length)]
def printR (n : Int) (l : List (L × L)) (b : L) : L × Int :=
  if reasonS n = [] ∨ (bareI n = true ∧ b ≠ []) then ([], 1) else if 100000 < b.length then ([], 2) else if 0 < (get l clenL).2 then ([], 180)
  else if (printS (withLen n l b)).2 = 0 then (firstL n ++ [13, 10] ++ (printS (withLen n l b)).1 ++ b, 0) else ([], (printS (withLen n l b)).2)
def Short (l : List (L × L)) : Prop := l.length ≤ 15000 ∧ ∀ p ∈ l, p.1.length ≤ 100000 ∧ p.2.length ≤ 100000
theorem printS_len (l : List (L × L)) : (printS l).1.length ≤ 8000 := by
  unfold printS
  split
  · split
    · simp
    · simp only; omega
  · simp
theorem short_with {n : Int} {l : List (L × L)} {b : L} (h : Short l) (hb : b.length ≤ 100000) : (withLen n l b).length ≤ 16000 ∧ ∀ p ∈ withLen n l b, p.1.length ≤ 100000 ∧ p.2.length ≤ 100000 := by
  have hd := dec_ln (b.length : Int) (by omega)
  have h1 := h.1
  unfold withLen
  split
  · exact ⟨by omega, h.2⟩
  · refine ⟨by rw [List.length_append, List.length_singleton]; omega, fun p hp => ?_⟩
    rcases List.mem_append.1 hp with hp | hp
    · exact h.2 p hp
    · rw [List.mem_singleton.1 hp]
      exact ⟨show CLenL.length ≤ 100000 by decide, by simp only; omega⟩
theorem get_bd {l : List (L × L)} (h : Short l) (n : L) : (get l n).1.length ≤ 10000200000 := get_bound l n (by have := h.1; omega) h.2
theorem lensF {l : List (L × L)} (k : Nat) (h : Short l) (hk : 200000 ≤ k) : response_lengths.f k (pairsB l) = some (get l clenL).2 := by
  unfold response_lengths.f
  have h1 := h.1
  rw [show (⟨#[99, 111, 110, 116, 101, 110, 116, 45, 108, 101, 110, 103, 116, 104]⟩ : ByteArray) = mk clenL from rfl, getF l clenL k (by decide) (by omega) (fun p hp => by have := h.2 p hp; omega) (by have := get_bd h clenL; omega) (by omega)]
  rfl
theorem pairs_with (l : List (L × L)) (v : L) : pairsB l ++ [(⟨(⟨#[67, 111, 110, 116, 101, 110, 116, 45, 76, 101, 110, 103, 116, 104]⟩ : ByteArray), mk v⟩ : S35)] = pairsB (l ++ [(CLenL, v)]) := by
  rw [pairsB_app]
  rfl
theorem first_len {n : Int} (h : n ∈ sts) : (firstL n).length ≤ 60 := by
  have := reason_len n h
  unfold firstL
  simp only [List.length_append, List.length_cons, List.length_nil, verL, dig3]
  omega
theorem pj1 {n : Int} (l' l : List (L × L)) (b : L) (k : Nat) (hn : n ∈ sts) (hl : l'.length ≤ 16000 ∧ ∀ p ∈ l', p.1.length ≤ 100000 ∧ p.2.length ≤ 100000) (hb : b.length ≤ 100000) (hk : 1000000 ≤ k) :
    response_Print.j1 k (pairsB l') n (pairsB l) (mk b) = some (if (printS l').2 = 0 then (mk (firstL n ++ [13, 10] ++ (printS l').1 ++ b), 0) else (⟨#[]⟩, (printS l').2)) := by
  obtain ⟨k, rfl⟩ : ∃ k', k = k' + 1 := ⟨k - 1, by omega⟩
  have h1 := printS_len l'
  have h2 := first_len hn
  rw [response_Print.j1, fprintF l' k hl.1 hl.2 (by omega), Option.bind_some]
  simp only
  by_cases h : (printS l').2 = 0
  · rw [if_pos h, if_pos h, firstF hn, Option.bind_some, show (⟨#[13, 10]⟩ : ByteArray) = mk [13, 10] from rfl, mk_append, mk_append, mk_append, if_pos (by rw [mk_size]; omega), if_pos (by rw [mk_size, mk_size, List.length_append]; simp only [List.length_cons, List.length_nil]; omega), if_pos (by rw [mk_size, mk_size]; simp only [List.length_append, List.length_cons, List.length_nil]; omega)]
  · rw [if_neg h, if_neg h]
theorem printF (n : Int) (l : List (L × L)) (b : L) (k : Nat) (hn1 : -9223372036854775808 ≤ n) (hn2 : n ≤ 9223372036854775807) (hl : Short l) (hb : b.length ≤ 1000000) (hk : 2000000 ≤ k) : response_Print.f k n (pairsB l) (mk b) = some (mk (printR n l b).1, (printR n l b).2) := by
  obtain ⟨k, rfl⟩ : ∃ k', k = k' + 1 := ⟨k - 1, by omega⟩
  unfold response_Print.f printR
  rw [reasonF n hn1 hn2, Option.bind_some, tl_mk]
  by_cases h0 : reasonS n = []
  · rw [if_pos h0, if_pos (.inl h0), response_Print.j0, if_pos (by simp [h0])]
    rfl
  rw [if_neg h0, bareF, Option.bind_some, tl_mk]
  have hj : (if bareI n = true then (response_Print.j0 (k + 1) (b != ([] : List UInt8)) n (pairsB l) (mk b)) else (response_Print.j0 (k + 1) false n (pairsB l) (mk b))) = response_Print.j0 (k + 1) (decide (bareI n = true ∧ b ≠ [])) n (pairsB l) (mk b) := by
    by_cases h : bareI n = true
    · rw [if_pos h]
      congr 1
      cases b <;> simp [h]
    · rw [if_neg h, decide_eq_false (fun e => h e.1)]
  rw [hj, response_Print.j0]
  by_cases h1 : bareI n = true ∧ b ≠ []
  · rw [if_pos (decide_eq_true h1), if_pos (.inr h1)]
    rfl
  rw [if_neg (by simpa using h1), if_neg (not_or.2 ⟨h0, h1⟩), mk_size]
  by_cases h2 : 100000 < b.length
  · rw [if_pos (by omega), if_pos h2]
    rfl
  rw [if_neg (by omega), if_neg h2, lensF k hl (by omega), Option.bind_some]
  by_cases h3 : 0 < (get l clenL).2
  · rw [if_pos h3, if_pos h3]
    rfl
  rw [if_neg h3, if_neg h3, slices_Clip.f, Option.bind_some, bareF, Option.bind_some]
  have hs := short_with (n := n) hl (show b.length ≤ 100000 by omega)
  have hin := reason_in h0
  have hfin : ∀ l', l' = withLen n l b → response_Print.j1 k (pairsB l') n (pairsB l) (mk b) = some (mk (if (printS (withLen n l b)).2 = 0 then (firstL n ++ [13, 10] ++ (printS (withLen n l b)).1 ++ b, (0 : Int)) else ([], (printS (withLen n l b)).2)).1, (if (printS (withLen n l b)).2 = 0 then (firstL n ++ [13, 10] ++ (printS (withLen n l b)).1 ++ b, (0 : Int)) else ([], (printS (withLen n l b)).2)).2) := by
    rintro l' rfl
    rw [pj1 _ l b k hin hs (by omega) (by omega)]
    split <;> rfl
  by_cases h4 : bareI n = true
  · rw [if_pos h4]
    exact hfin l (by unfold withLen; rw [if_pos h4])
  · rw [if_neg h4, itoF (b.length : Int) (by omega) (by omega), Option.bind_some, if_pos (by rw [pairsB_len]; have := hl.1; omega), pairs_with]
    exact hfin _ (by unfold withLen; rw [if_neg h4])
def zr (e : Int) : Int × List (L × L) × L × Int := (0, [], [], e)
def behind (n : Int) (r : L) : Int × List (L × L) × L × Int :=
  if (fields r).2.2 ≠ 0 then zr (fields r).2.2
  else if bareI n = true then (if 0 < (get (fields r).1 clenL).2 ∨ (fields r).2.1 ≠ [] then zr 190 else (n, (fields r).1, (fields r).2.1, 0))
  else if (get (fields r).1 clenL).2 = 1 ∧ (fields r).1.getLast? = some (clenL, Mn.dec (fields r).2.1.length) ∧ (fields r).2.1.length ≤ 100000 then (n, (fields r).1.dropLast, (fields r).2.1, 0) else zr 190
def parseR (s : L) : Int × List (L × L) × L × Int := match line s with
  | none => zr 200
  | some (l, r) => if statusS l = 0 then zr 200 else behind (statusS l) r
def txt4 (q : Int × List (L × L) × L × Int) : Int × List S35 × ByteArray × Int := (q.1, pairsB q.2.1, mk q.2.2.1, q.2.2.2)
theorem fields_ok_short (r : L) (h : r.length ≤ 30000) (h0 : (fields r).2.2 = 0) : Short (fields r).1 := by
  obtain ⟨_, _, h1⟩ := fields_back r h0
  have h2 := prs_len (fields r).1
  have hf := fields_len r
  exact ⟨by omega, fun p hp => by have := hf.2.1 p hp; omega⟩
theorem get_snoc (a : List (L × L)) (p : L × L) : (get (a ++ [p]) clenL).2 = (get a clenL).2 + (if low p.1 = clenL then 1 else 0) := by
  have hl : low clenL = clenL := by decide +kernel
  unfold get vals
  rw [List.filter_append, List.map_append, List.length_append]
  by_cases h : low p.1 = clenL
  · rw [if_pos h]; simp [h, hl]
  · rw [if_neg h]; simp [h, hl]
theorem get_none : (get ([] : List (L × L)) clenL).2 = 0 := rfl
theorem last_at (a : List (L × L)) (p : L × L) : rd_T35 (pairsB (a ++ [p])) (a.length : Int) = ⟨mk p.1, mk p.2⟩ := rd_pairs _ _ _ (by simp)
theorem last_idx (a : List (L × L)) (p : L × L) (h : a.length ≤ 1000000) : wrap64 (((a ++ [p]).length : Int) - 1) = (a.length : Int) := by
  rw [List.length_append, List.length_singleton, wrap_id (by omega) (by omega)]
  omega
theorem pj0 (n : Int) (r : L) (k : Nat) (hn : statusS [] = 0 → True) (hr : r.length ≤ 30000) (hk : 2000000 ≤ k) : response_Parse.j0 k (mk r) n false = some (txt4 (behind n r)) := by
  obtain ⟨k, rfl⟩ : ∃ k', k = k' + 1 := ⟨k - 1, by omega⟩
  have hf := fields_len r
  rw [response_Parse.j0, if_neg (by decide), fldF r (by omega), Option.bind_some]
  unfold fldB behind
  simp only
  by_cases h1 : (fields r).2.2 = 0
  · have hs := fields_ok_short r hr h1
    rw [if_pos h1, if_neg (show ¬ (fields r).2.2 ≠ 0 by simpa using h1), bareF, Option.bind_some, tl_mk]
    generalize (fields r).1 = h at *
    generalize (fields r).2.1 = bd at *
    by_cases h2 : bareI n = true
    · rw [if_pos h2, if_pos h2, lensF k hs (by omega), Option.bind_some]
      by_cases h3 : 0 < (get h clenL).2
      · rw [if_pos h3, if_pos (.inl h3)]
        rfl
      · rw [if_neg h3]
        by_cases h4 : bd = []
        · rw [if_pos h4, if_neg (by simp [h3, h4])]
          rfl
        · rw [if_neg h4, if_pos (.inr h4)]
          rfl
    · rw [if_neg h2, if_neg h2, lensF k hs (by omega), Option.bind_some]
      by_cases h3 : (get h clenL).2 = 1
      · rw [if_pos h3]
        rcases List.eq_nil_or_concat h with rfl | ⟨a, p, rfl⟩
        · rw [get_none] at h3
          cases h3
        · rw [List.concat_eq_append] at *
          have hal : a.length ≤ 15000 := by have := hs.1; rw [List.length_append] at this; omega
          rw [pairsB_len, last_idx a p (by omega), if_pos (by omega), if_pos (by rw [List.length_append, List.length_singleton]; omega), mk_size, itoF (bd.length : Int) (by omega) (by omega), Option.bind_some, last_at]
          simp only [tl_mk]
          rw [show ([99, 111, 110, 116, 101, 110, 116, 45, 108, 101, 110, 103, 116, 104] : List UInt8) = clenL from rfl, List.getLast?_concat]
          by_cases h5 : p.1 = clenL ∧ p.2 = Mn.dec (bd.length : Int)
          · obtain ⟨p1, p2⟩ := p
            obtain ⟨rfl, rfl⟩ := h5
            rw [if_neg (by simp)]
            by_cases h6 : 100000 < bd.length
            · rw [if_pos (by omega), if_neg (fun e => by have := e.2.2; omega)]
              rfl
            · rw [if_neg (by omega), if_pos (by rw [List.length_append, List.length_singleton]; omega), if_pos ⟨h3, rfl, by omega⟩, List.dropLast_concat, Int.toNat_natCast, pairsB_app, List.take_left' (pairsB_len a)]
              rfl
          · rw [if_pos (by
              by_cases h7 : p.1 = clenL
              · have h8 : ¬ p.2 = Mn.dec (bd.length : Int) := fun e => h5 ⟨h7, e⟩
                simp [h7, h8]
              · simp [h7]), if_neg (fun e => h5 (by have := Option.some.inj e.2.1; rw [this]; exact ⟨rfl, rfl⟩))]
            rfl
      · rw [if_neg h3, if_neg (fun e => h3 e.1)]
        rfl
  · rw [if_neg h1, if_pos h1]
    rfl
theorem parseRF (s : L) (k : Nat) (hs : s.length ≤ 30000) (hk : 3000000 ≤ k) : response_Parse.f k (mk s) = some (txt4 (parseR s)) := by
  unfold response_Parse.f parseR
  rw [show (⟨#[13, 10]⟩ : ByteArray) = mk [13, 10] from rfl, cut_l, if_pos (by omega), Option.bind_some]
  obtain ⟨k, rfl⟩ : ∃ k', k = k' + 1 := ⟨k - 1, by omega⟩
  rcases line_cut s with ⟨e1, e2⟩ | ⟨⟨l, r⟩, e1, e2⟩
  · rw [e1, e2]
    simp only
    rw [statusF s (by omega), Option.bind_some, if_neg (by decide), response_Parse.j0, if_pos rfl]
    rfl
  · have hll := congrArg List.length (line_len s _ e1)
    simp only [List.length_append, List.length_cons] at hll
    rw [e1, e2]
    simp only [if_true]
    rw [statusF l (by omega), Option.bind_some]
    by_cases h : statusS l = 0
    · rw [if_pos h, h, response_Parse.j0, if_pos (by decide)]
      rfl
    · rw [if_neg h, show (statusS l == 0) = false from by simpa using h]
      exact pj0 _ r (k + 1) (fun _ => trivial) (by omega) (by omega)
def wt : List (L × L) → Nat
  | [] => 0
  | p :: r => p.1.length + p.2.length + 1 + wt r
theorem wt_len (l : List (L × L)) : l.length ≤ wt l := by
  induction l with
  | nil => simp
  | cons p r ih => rw [List.length_cons, wt]; omega
theorem wt_mem (l : List (L × L)) : ∀ p ∈ l, p.1.length + p.2.length ≤ wt l := by
  induction l with
  | nil => intro p hp; simp at hp
  | cons q r ih =>
    intro p hp
    rw [wt]
    rcases List.mem_cons.1 hp with rfl | hp
    · omega
    · have := ih p hp; omega
theorem few_l0 (n0 : Int) (b : ByteArray) (l : List (L × L)) (hl : l.length ≤ 1000000000000000000) (hp : ∀ p ∈ l, p.1.length ≤ 140737488355328 ∧ p.2.length ≤ 140737488355328) : ∀ (d k i n : Nat), i + d = l.length → d < k → n ≤ 300000000000000 →
    broadsheetlaw21_few.l0 k (n : Int) (i : Int) n0 (pairsB l) b = some (decide (n + wt (l.drop i) ≤ 3000)) := by
  intro d
  induction d with
  | zero =>
    intro k i n hi hk hn
    obtain ⟨k, rfl⟩ : ∃ k', k = k' + 1 := ⟨k - 1, by omega⟩
    rw [List.drop_eq_nil_of_le (by omega), broadsheetlaw21_few.l0, if_neg (by rw [pairsB_len]; omega)]
    congr 1
    exact decide_eq_decide.2 (by rw [wt]; omega)
  | succ d ih =>
    intro k i n hi hk hn
    obtain ⟨k, rfl⟩ : ∃ k', k = k' + 1 := ⟨k - 1, by omega⟩
    have hlt : i < l.length := by omega
    obtain ⟨h1, h2⟩ := hp l[i] (List.getElem_mem hlt)
    have hw : wt (l.drop i) = l[i].1.length + l[i].2.length + 1 + wt (l.drop (i + 1)) := by rw [List.drop_eq_getElem_cons hlt, wt]
    rw [hw, broadsheetlaw21_few.l0, if_pos (by rw [pairsB_len]; omega)]
    by_cases h : (n : Int) ≤ 3000
    · rw [if_pos h, if_pos (by omega), rd_pairs l i l[i] (List.getElem?_eq_getElem hlt)]
      simp only [mk_size]
      generalize l[i].1.length = x at *
      generalize l[i].2.length = y at *
      rw [wrap_id (x := (n : Int) + (x : Int)) (by omega) (by omega), wrap_id (x := (n : Int) + (x : Int) + (y : Int)) (by omega) (by omega), wrap_id (x := (n : Int) + (x : Int) + (y : Int) + 1) (by omega) (by omega), wrap_id (x := (i : Int) + 1) (by omega) (by omega)]
      have := ih k (i + 1) (n + x + y + 1) (by omega) (by omega) (by omega)
      rw [show (n : Int) + (x : Int) + (y : Int) + 1 = ((n + x + y + 1 : Nat) : Int) by omega, show (i : Int) + 1 = ((i + 1 : Nat) : Int) by omega, this]
      congr 1
      exact decide_eq_decide.2 (by omega)
    · rw [if_neg h]
      congr 1
      exact decide_eq_decide.2 (by omega)
theorem fewF (n0 : Int) (l : List (L × L)) (b : L) (k : Nat) (hl : l.length ≤ 1000000000000000000) (hp : ∀ p ∈ l, p.1.length ≤ 140737488355328 ∧ p.2.length ≤ 140737488355328) (hb : b.length ≤ 140737488355328) (hk : l.length < k) :
    broadsheetlaw21_few.f k n0 (pairsB l) (mk b) = some (decide (b.length + wt l ≤ 3000)) := by
  have := few_l0 n0 (mk b) l hl hp l.length k 0 b.length (by omega) hk (by omega)
  unfold broadsheetlaw21_few.f
  rw [mk_size]
  exact this
theorem few_short {l : List (L × L)} {b : L} (h : b.length + wt l ≤ 3000) : Short l ∧ b.length ≤ 3000 := by
  have h1 := wt_len l
  exact ⟨⟨by omega, fun p hp => by have := wt_mem l p hp; omega⟩, by omega⟩
theorem pairs_self (l : List S35) : pairsB (l.map fun x => (x.f0.data.toList, x.f1.data.toList)) = l := by
  unfold pairsB
  rw [List.map_map]
  conv => rhs; rw [← List.map_id l]
  refine List.map_congr_left fun x _ => ?_
  simp only [Function.comp, mk_self, id]
theorem bounds_self {l : List S35} (h : ∀ x ∈ l, x.f0.size ≤ 140737488355328 ∧ x.f1.size ≤ 140737488355328) : ∀ p ∈ l.map (fun x => (x.f0.data.toList, x.f1.data.toList)), p.1.length ≤ 140737488355328 ∧ p.2.length ≤ 140737488355328 := by
  intro p hp
  obtain ⟨x, hx, rfl⟩ := List.mem_map.1 hp
  have := h x hx
  rw [Lib.size_eq, Lib.size_eq] at this
  exact this
theorem printR_len2 {n : Int} {l : List (L × L)} {b : L} (hb : b.length ≤ 3900) : (printR n l b).1.length ≤ 20000 := by
  have h1 := printS_len (withLen n l b)
  unfold printR
  split
  · simp
  · rename_i h0
    split
    · simp
    · split
      · simp
      · split
        · have hn := first_len (reason_in (fun e => h0 (.inl e)))
          simp only [List.length_append, List.length_cons, List.length_nil]
          omega
        · simp
def awS : L := [72, 84, 84, 80, 47, 49, 46, 49, 32, 52, 48, 52, 32, 78, 111, 116, 32, 70, 111, 117, 110, 100, 13, 10, 67, 111, 110, 116, 101, 110, 116, 45, 76, 101, 110, 103, 116, 104, 58, 32, 48, 13, 10, 13, 10]
theorem short_nil : Short [] := ⟨by simp, by simp⟩
theorem dec0 : Mn.dec (([] : L).length : Int) = [48] := by
  unfold Mn.dec
  rw [Lib.decDigits, dif_pos (by simp)]
  rfl
theorem aw_print : printR 404 [] [] = (awS, 0) := by
  have e : withLen 404 [] [] = [(CLenL, [48])] := by
    unfold withLen
    rw [if_neg (by decide), dec0]
    rfl
  unfold printR
  rw [e, if_neg (by decide +kernel), if_neg (by decide), if_neg (by decide +kernel)]
  have e2 : printS [(CLenL, [48])] = ([67, 111, 110, 116, 101, 110, 116, 45, 76, 101, 110, 103, 116, 104, 58, 32, 48, 13, 10, 13, 10], 0) := by decide +kernel
  rw [e2, if_pos rfl]
  decide +kernel
theorem aw_parse : parseR awS = (404, [], [], 0) := by
  have e1 : line awS = some (firstL 404, [67, 111, 110, 116, 101, 110, 116, 45, 76, 101, 110, 103, 116, 104, 58, 32, 48, 13, 10, 13, 10]) := by decide +kernel
  have e2 : fields [67, 111, 110, 116, 101, 110, 116, 45, 76, 101, 110, 103, 116, 104, 58, 32, 48, 13, 10, 13, 10] = ([(clenL, [48])], [], 0) := by decide +kernel
  unfold parseR
  rw [e1]
  simp only
  rw [status_of (show (404 : Int) ∈ sts by decide), if_neg (by decide)]
  unfold behind
  rw [e2]
  simp only
  rw [if_neg (by decide), if_neg (by decide), dec0, if_pos (by decide +kernel)]
  rfl
theorem aw_bad : printR 1 [] [] = ([], 1) := by
  unfold printR
  rw [if_pos (.inl (by decide +kernel))]
theorem awake21 (k : Nat) (hk : 4000000 ≤ k) : broadsheetlaw21_awake.f k = some true := by
  unfold broadsheetlaw21_awake.f
  have h1 := printF 404 [] [] k (by omega) (by omega) short_nil (by simp) (by omega)
  have h2 := printF 1 [] [] k (by omega) (by omega) short_nil (by simp) (by omega)
  have e0 : (pairsB [] : List S35) = [] := rfl
  rw [e0, aw_print] at h1
  rw [e0, aw_bad] at h2
  rw [show (⟨#[]⟩ : ByteArray) = mk [] from rfl, h1, h2]
  simp only [Option.bind_some]
  rw [parseRF awS k (by decide) (by omega), aw_parse]
  simp only [Option.bind_some, tl_mk, txt4]
  rfl
theorem printS_ok {l : List (L × L)} (h : (printS l).2 = 0) : l.all okP = true ∧ (prs l).length + 2 ≤ 8000 ∧ (printS l).1 = prs l ++ [13, 10] := by
  unfold printS at *
  split at h
  · rename_i h1
    split at h
    · cases h
    · rename_i h2
      rw [if_pos h1, if_neg h2]
      rw [List.length_append] at h2
      simp only [List.length_cons, List.length_nil] at h2
      exact ⟨h1, by omega, rfl⟩
  · cases h
theorem first13 : ∀ n ∈ sts, 13 ∉ firstL n := by decide +kernel
theorem count_low (l : List (L × L)) : (get (l.map lowP) clenL).2 = (get l clenL).2 := by
  unfold get vals
  simp only [List.length_map]
  congr 1
  induction l with
  | nil => rfl
  | cons p r ih =>
    rw [List.map_cons, List.filter_cons, List.filter_cons]
    have e : (low (lowP p).1 == low clenL) = (low p.1 == low clenL) := by unfold lowP; rw [low_low]
    rw [e]
    split
    · simp only [List.length_cons, ih]
    · exact ih
theorem get_nonneg (l : List (L × L)) (n : L) : 0 ≤ (get l n).2 := by unfold get; simp
theorem back_R {n : Int} {l : List (L × L)} {b : L} (h : (printR n l b).2 = 0) : n ∈ sts ∧ parseR (printR n l b).1 = (n, l.map lowP, b, 0) := by
  have hlow : low clenL = clenL := by decide +kernel
  have hlow2 : lowP (CLenL, Mn.dec (b.length : Int)) = (clenL, Mn.dec (b.length : Int)) := by
    unfold lowP
    rw [show low (CLenL, Mn.dec (b.length : Int)).1 = clenL from (show low CLenL = clenL by decide +kernel)]
  unfold printR at h ⊢
  by_cases h0 : reasonS n = [] ∨ (bareI n = true ∧ b ≠ [])
  · rw [if_pos h0] at h; cases h
  rw [if_neg h0] at h ⊢
  by_cases h1 : 100000 < b.length
  · rw [if_pos h1] at h; cases h
  rw [if_neg h1] at h ⊢
  by_cases h2 : 0 < (get l clenL).2
  · rw [if_pos h2] at h; cases h
  rw [if_neg h2] at h ⊢
  by_cases h3 : (printS (withLen n l b)).2 = 0
  · rw [if_pos h3] at h ⊢
    obtain ⟨g1, g2, g3⟩ := printS_ok h3
    have hn : n ∈ sts := reason_in (fun e => h0 (.inl e))
    have hnb := sts_bd n hn
    have h4 : (get l clenL).2 = 0 := by have := get_nonneg l clenL; omega
    refine ⟨hn, ?_⟩
    rw [g3]
    have e1 : firstL n ++ [13, 10] ++ (prs (withLen n l b) ++ [13, 10]) ++ b = firstL n ++ 13 :: 10 :: (prs (withLen n l b) ++ 13 :: 10 :: b) := by simp
    unfold parseR
    rw [e1, line13 _ _ (first13 n hn)]
    simp only
    rw [status_of hn, if_neg (by omega)]
    unfold behind
    rw [fields_prs _ b g1 g2]
    simp only
    rw [if_neg (by decide)]
    by_cases hb : bareI n = true
    · have hbn : b = [] := Classical.byContradiction fun e => h0 (.inr ⟨hb, e⟩)
      have hw : withLen n l b = l := by unfold withLen; rw [if_pos hb]
      rw [if_pos hb, hw, count_low, h4, if_neg (by rw [hbn]; simp)]
    · have hw : withLen n l b = l ++ [(CLenL, Mn.dec b.length)] := by unfold withLen; rw [if_neg hb]
      rw [if_neg hb, hw, List.map_append, List.map_cons, List.map_nil, hlow2, get_snoc, count_low, h4]
      simp only
      rw [if_pos hlow, List.getLast?_concat, if_pos ⟨by omega, rfl, by omega⟩, List.dropLast_concat]
  · rw [if_neg h3] at h
    exact absurd h h3
theorem printR_err {n : Int} {l : List (L × L)} {b : L} (h : (printR n l b).2 ≠ 0) : (printR n l b).1 = [] := by
  unfold printR at h ⊢
  by_cases h0 : reasonS n = [] ∨ (bareI n = true ∧ b ≠ [])
  · rw [if_pos h0]
  rw [if_neg h0] at h ⊢
  by_cases h1 : 100000 < b.length
  · rw [if_pos h1]
  rw [if_neg h1] at h ⊢
  by_cases h2 : 0 < (get l clenL).2
  · rw [if_pos h2]
  rw [if_neg h2] at h ⊢
  by_cases h3 : (printS (withLen n l b)).2 = 0
  · rw [if_pos h3] at h
    exact absurd rfl h
  · rw [if_neg h3]
theorem rd_sts : ∀ i : Fin 16, rd sts (i.val : Int) ∈ sts := by decide +kernel
theorem back_l0 (l : List (L × L)) (hs : Short l) (n m : Int) (b b' : ByteArray) : ∀ (d k i : Nat), i + d = l.length → d + 100010 < k →
    broadsheetlaw21_ResponseBack.l0 k true (i : Int) n (pairsB l) b m (pairsB (l.map lowP)) b' = some true := by
  intro d
  induction d with
  | zero =>
    intro k i hi hk
    obtain ⟨k, rfl⟩ : ∃ k', k = k' + 1 := ⟨k - 1, by omega⟩
    rw [broadsheetlaw21_ResponseBack.l0, if_neg (by rw [pairsB_len, List.length_map]; omega)]
  | succ d ih =>
    intro k i hi hk
    obtain ⟨k, rfl⟩ : ∃ k', k = k' + 1 := ⟨k - 1, by omega⟩
    have hlt : i < l.length := by omega
    have h1 := hs.1
    have h2 := hs.2 l[i] (List.getElem_mem hlt)
    have hm : (l.map lowP)[i]? = some (lowP l[i]) := by rw [List.getElem?_map, List.getElem?_eq_getElem hlt]; rfl
    rw [broadsheetlaw21_ResponseBack.l0, if_pos (by rw [pairsB_len, List.length_map]; omega), if_pos (by omega), if_pos (by rw [pairsB_len]; omega), rd_pairs l i l[i] (List.getElem?_eq_getElem hlt), rd_pairs (l.map lowP) i _ hm]
    simp only
    rw [rlowF _ _ (by omega) (by omega), Option.bind_some, if_pos (show (mk (lowP l[i]).1).toList = (mk (low l[i].1)).toList from rfl), if_pos (show (mk (lowP l[i]).2).toList = (mk l[i].2).toList from rfl), w1 i (by omega)]
    exact ih k (i + 1) (by omega) (by omega)
theorem back_j0 (n : Int) (l : List (L × L)) (b : L) (k : Nat) (hs : Short l) (hb : b.length ≤ 3000) (hn : n ∈ sts) (hk : 4000000 ≤ k) : broadsheetlaw21_ResponseBack.j0 k true n (pairsB l) (mk b) = some true := by
  obtain ⟨k, rfl⟩ : ∃ k', k = k' + 1 + 1 := ⟨k - 2, by omega⟩
  have hnb := sts_bd n hn
  have hlen := printR_len2 (n := n) (l := l) (b := b) (by omega)
  have hl1 := hs.1
  rw [broadsheetlaw21_ResponseBack.j0, printF n l b _ (by omega) (by omega) hs (by omega) (by omega), Option.bind_some]
  simp only
  by_cases h : (printR n l b).2 = 0
  · obtain ⟨g1, g2⟩ := back_R h
    rw [if_pos h, parseRF _ _ (by omega) (by omega), Option.bind_some, g2]
    simp only [txt4, if_true, pairsB_len, List.length_map, bne_self_eq_false]
    rw [broadsheetlaw21_ResponseBack.j1, if_neg (by decide)]
    exact back_l0 l hs n n (mk b) (mk b) l.length k 0 (by omega) (by omega)
  · rw [if_neg h, if_true, printR_err h]
    simp [tl_mk]
theorem rsp_back_all (n : Int) (l : List S35) (b : ByteArray) (a : Int) (hn1 : -9223372036854775808 ≤ n) (hn2 : n ≤ 9223372036854775807) (hb : b.size ≤ 140737488355328) (hl : l.length ≤ 1000000000000000000) (hp : ∀ x ∈ l, x.f0.size ≤ 140737488355328 ∧ x.f1.size ≤ 140737488355328) (ha : 0 ≤ a ∧ a ≤ 255) :
    ∃ k, broadsheetlaw21_ResponseBack.f k n l b a = some true := by
  refine ⟨l.length + 5000000, ?_⟩
  have hp' := bounds_self hp
  have hl' : (l.map fun x => (x.f0.data.toList, x.f1.data.toList)).length = l.length := List.length_map _
  rw [← pairs_self l, ← mk_self b, pairsB_len]
  rw [← hl'] at hl
  rw [Lib.size_eq] at hb
  generalize (l.map fun x => (x.f0.data.toList, x.f1.data.toList)) = q at *
  generalize b.data.toList = c at *
  unfold broadsheetlaw21_ResponseBack.f
  rw [awake21 _ (by omega), Option.bind_some, if_pos rfl, fewF n q c _ hl hp' hb (by omega), Option.bind_some]
  by_cases h : c.length + wt q ≤ 3000
  · obtain ⟨h1, h2⟩ := few_short h
    rw [if_pos (decide_eq_true h), reasonF n hn1 hn2, Option.bind_some, tl_mk]
    by_cases h3 : reasonS n = []
    · rw [if_pos h3, Option.bind_some, show ([200, 201, 204, 304, 400, 404, 405, 406, 409, 412, 413, 415, 431, 500, 503, 507] : List Int) = sts from rfl, show ((sts.length : Nat) : Int) = 16 from rfl, if_neg (by decide), wrap_id (by omega) (by omega), Int.tmod_eq_emod_of_nonneg ha.1, if_pos (by omega), if_pos (by omega)]
      have hr := rd_sts ⟨(a % 16).toNat, by omega⟩
      rw [show (((⟨(a % 16).toNat, by omega⟩ : Fin 16).val : Nat) : Int) = a % 16 from Int.toNat_of_nonneg (by omega)] at hr
      exact back_j0 _ q c _ h1 h2 hr (by omega)
    · rw [if_neg h3]
      exact back_j0 n q c _ h1 h2 (reason_in h3) (by omega)
  · rw [if_neg (by simpa using h)]
end Go.Proofs.YtaopopnlnohnpaaDoor.Sp
/- CardW -/
namespace Go.Proofs.YtaopopnlnohnpaaDoor.Cg
open Go.RowKit Go.Proofs.YtaopopnlnohnpaaDoor.P Go.Proofs.YtaopopnlnohnpaaDoorW.PrintWords Go.Proofs.YtaopopnlnohnpaaDoorW.PrintLast Go.Proofs.YtaopopnlnohnpaaDoor.O
open Go.ChangeShapes Go.WideShapes Go.Deep
set_option linter.unusedVariables false
/-- The plain wrap, with a condition of one's own and the world's shape. -/
theorem wrapS {H : Type} {enc : TypeId × Value → H} {a : Assume} {C : Checked} {os : Os} {f : FuncId} {fn : Func} {s : ChangeSpec} {conds : List PathCond} {apart fresh handsOn again : Bool} {X : World → Array Value → Prop}
    (hX : ∀ (w w' : World) (args : Array Value), w.heap = w'.heap → X w args → X w' args)
    (own : ownKnob C.prog.godebug = none) (started : os.Started) (noInit : C.prog.inits.idxOf? f = none) (hfn : C.prog.funcs[f]? = some fn)
    (witness : ∃ (w : World) (tape : Tape) (i : Input), w.os = os ∧ (w.forCall tape i).Shaped C.prog ∧ i.vars = [] ∧ Input.okWide C.prog (w.forCall tape i) .any w.heap.size f i ∧
      ((s.pre enc C.prog fn conds apart (w.forCall tape i).memory i.args ∧ X (w.forCall tape i).memory i.args) ∧ sizedMet enc C.prog fn (OpenSpec.ofChange s) apart (w.forCall tape i).memory i.args) ∧ a.holds C.prog (lone (Frame.enter C.prog f i.args .normal) [] (w.forCall tape i)))
    (contract : ∀ (W : World) (base : Nat) (args : Array Value) (ds gs : List (DataW H)) (before : List MemPlace),
      (∀ (j : Nat) t v, fn.params[j]? = some t → args[j]? = some v → Value.okWide C.prog W .any base t v) →
      DataW.Whole enc C.prog fn.params.toList s.vars apart W args.toList ds gs before →
      (DataW.weightsEach C.prog (fn.params.toList ++ s.plain.varTypes C.prog) (ds ++ gs)).all (· ≤ reachBytes) = true → X W args → W.ShapedOpen C.prog →
      Calls C.prog f args W fun e W' => ∃ v, e = .returned v ∧ s.post enc C.prog fn apart fresh handsOn again W args v W') :
    ReturnsInHanded a C os f .any (fun w args => (s.pre enc C.prog fn conds apart w args ∧ X w args) ∧ sizedMet enc C.prog fn (OpenSpec.ofChange s) apart w args) (s.post enc C.prog fn apart fresh handsOn again) := by
  refine returnsInHanded_of_calls own started noInit witness ?_
  intro w tape i _ hsh _ hok hpre _
  obtain ⟨_, _, _, fn', hfn', _, _, _, _, hval⟩ := hok
  obtain rfl : fn' = fn := Option.some.inj (hfn'.symm.trans hfn)
  obtain ⟨⟨⟨ds, gs, before, hw, _⟩, hx⟩, hz⟩ := hpre
  refine (contract (w.forCall tape i) w.heap.size i.args ds gs before hval (DataW.Whole.of_heap (w' := w.forCall tape i) (by rfl) hw) (hz.weights hw) (hX _ _ _ (by rfl) hx) hsh).mono fun e W' ⟨v, he, hp⟩ => ?_
  subst he
  exact ChangeSpec.post_blind hp
theorem var_iface {W : World} {n nm : String} {d : DataW Unit} {g t : Nat} {ms : Array (String × TypeId)} (h : Lib.VarReads Tryd.prog W n (.iface nm d)) (hg : Tryd.prog.globalNamed n = some g) (ht : (Tryd.prog.globals[g]?).map (·.type) = some t) (hi : Tryd.prog.underlying t = some (.interface ms)) :
    ∃ t p, W.var? Tryd.prog n = some #[.iface t p] := by
  obtain ⟨g', t', cs, fuel, p, hg', ht', hv, hd⟩ := h
  obtain rfl := Option.some.inj (hg.symm.trans hg')
  obtain rfl := Option.some.inj (ht.symm.trans ht')
  obtain ⟨_, u, v, e, _, _⟩ := iface_of_trod hi hd
  refine ⟨u, v, ?_⟩
  rw [hv]
  cases cs
  simp only at e
  rw [e]
theorem mem_weightsAll {H : Type} {P : Program} {e : TypeId} : ∀ {ds : List (DataW H)} {d : DataW H}, d ∈ ds → ∀ n ∈ d.weights P e, n ∈ DataW.weightsAll P e ds
  | d0 :: r, d, hd, n, hn => by
    simp only [DataW.weightsAll, List.mem_append]
    rcases List.mem_cons.1 hd with rfl | hd
    · exact Or.inl hn
    · exact Or.inr (mem_weightsAll hd n hn)
  | [], _, hd, _, _ => by simp at hd
theorem pairs_at {H : Type} {enc : TypeId × Value → H} {W : World} {v : Value} {d : DataW H} {p : List MemPlace} {fuel : Nat} (hf : DataW.trod enc Tryd.prog W 0 (fun _ => true) true fuel 22 [v] = some (d, p))
    (hb : ∀ n ∈ d.weights Tryd.prog 22, n ≤ reachBytes) :
    ∃ A c l, v = .slice A l.length c ∧ l.length ≤ c ∧ Kd.C k35 W A l.length l ∧ l.length ≤ 1000000000000000000 ∧ ∀ x ∈ l, x.f0.size ≤ 140737488355328 ∧ x.f1.size ≤ 140737488355328 := by
  have hR := reachBytes_lt
  rcases open_slice_pairs Tryd.underlying22 Tryd.underlying35 (by kernel_rfl) rfl rfl (by kernel_rfl) (by kernel_rfl) hf with ⟨hcs, _⟩ | ⟨a', len, cap, m, n, V0, V1, D0, D1, P0, P1, hcs, _, hl, hm, hmm, hx, hi⟩
  · obtain rfl : v = .slice none 0 0 := by simpa using hcs
    exact ⟨none, 0, [], rfl, Nat.le_refl _, ⟨rfl, by simp, fun h => absurd h (by simp)⟩, by simp, by simp⟩
  · obtain rfl : v = .slice (some a') len cap := by simpa using hcs
    have hlm : len ≤ m := by rw [hmm]; split <;> omega
    have hd : d = .slice ((List.range len).map fun i => .agg [D0 i, D1 i]) ((List.range (m - len)).map fun j => .agg [D0 (len + j), D1 (len + j)]) := congrArg Prod.fst hx
    have key : ∀ i, ∃ r : S35, i < len → (r.f0.size ≤ 140737488355328 ∧ r.f1.size ≤ 140737488355328) ∧ ∀ j u, [Value.string r.f0, .string r.f1][j]? = some u → W.cell? (a'.add (i * 2 + j)) = some u := by
      intro i
      by_cases hil : i < len
      · obtain ⟨f0, f1, t0, t1⟩ := hi i (by omega)
        obtain ⟨s0, e0, x0, _⟩ := DataW.trod_string Tryd.underlying9 t0
        obtain ⟨s1, e1, x1, _⟩ := DataW.trod_string Tryd.underlying9 t1
        have g0 : V0 i = .string s0 := by simpa using e0
        have g1 : V1 i = .string s1 := by simpa using e1
        have y0 : D0 i = .lit (.string s0.data.toList) := congrArg Prod.fst x0
        have y1 : D1 i = .lit (.string s1.data.toList) := congrArg Prod.fst x1
        have hw : ∀ n ∈ (DataW.agg [D0 i, D1 i] : DataW H).weights Tryd.prog 35, n ≤ reachBytes := by
          intro n hn
          refine hb n ?_
          rw [hd]
          simp only [DataW.weights, Tryd.underlying22, List.mem_cons, List.mem_append]
          exact Or.inr (Or.inl (mem_weightsAll (List.mem_map.2 ⟨i, List.mem_range.2 hil, rfl⟩) n hn))
        rw [y0, y1] at hw
        simp [DataW.weights, DataW.weightsEach, Tryd.underlying35] at hw
        refine ⟨⟨s0, s1⟩, fun _ => ⟨⟨?_, ?_⟩, fun j u hu => ?_⟩⟩
        · have := hw.1; rw [Lib.size_eq]; simp at this ⊢; omega
        · have := hw.2; rw [Lib.size_eq]; simp at this ⊢; omega
        · have hj : j < 2 := (List.getElem?_eq_some_iff.1 hu).1
          have : j = 0 ∨ j = 1 := by omega
          rcases this with rfl | rfl
          · obtain rfl := Option.some.inj hu
            rw [← g0]; exact f0
          · obtain rfl := Option.some.inj hu
            rw [← g1]; exact f1
      · exact ⟨z35, fun h => absurd h hil⟩
    obtain ⟨f, hf'⟩ := Classical.axiomOfChoice key
    have hlen : ((List.range len).map f).length = len := by simp
    refine ⟨some a', cap, (List.range len).map f, by simp, by simpa using hl, ⟨rfl, ?_, fun _ => ⟨a', rfl, fun j x hx => ?_⟩⟩, ?_, ?_⟩
    · rw [hlen]; unfold maxLen at hm; omega
    · rw [List.getElem?_map] at hx
      obtain ⟨i, hi', rfl⟩ := Option.map_eq_some_iff.1 hx
      have hjl : j < len := by
        have := (List.getElem?_eq_some_iff.1 hi').1
        simpa using this
      have : i = j := by
        rw [List.getElem?_range hjl] at hi'
        exact (Option.some.inj hi').symm
      subst this
      exact ⟨_, rfl, k35_mk _ _, (hf' i hjl).2⟩
    · rw [hlen]
      have := hb ((len + (m - len)) * Tryd.prog.bytesOf 35) (by rw [hd]; simp [DataW.weights, Tryd.underlying22])
      have h2 : len + (m - len) ≤ (len + (m - len)) * Tryd.prog.bytesOf 35 := Nat.le_mul_of_pos_right _ (by rw [show Tryd.prog.bytesOf 35 = 32 by kernel_rfl]; omega)
      omega
    · intro x hx
      obtain ⟨i, hi', rfl⟩ := List.mem_map.1 hx
      exact (hf' i (List.mem_range.1 hi')).1
set_option maxRecDepth 100000 in
theorem resp_of {H : Type} {enc : TypeId × Value → H} {W : World} {r : Reach} {base : Nat} {v : Value} {d : DataW H} {p : List MemPlace} (h : DataW.Trod enc Tryd.prog W 0 (fun _ => true) true 24 v d p) (hv : Value.okWide Tryd.prog W r base 24 v)
    (hb : ∀ n ∈ d.weights Tryd.prog 24, n ≤ reachBytes) :
    ∃ a A c l b, v = .agg #[.int .i64 a, .slice A (List.length l) c, .string b] ∧ l.length ≤ c ∧ Kd.C k35 W A l.length l ∧ (-9223372036854775808 ≤ a ∧ a ≤ 9223372036854775807) ∧ b.size ≤ 140737488355328 ∧ l.length ≤ 1000000000000000000 ∧ ∀ x ∈ l, x.f0.size ≤ 140737488355328 ∧ x.f1.size ≤ 140737488355328 := by
  have hR := reachBytes_lt
  obtain ⟨v0, v1, v2, ⟨d0, p0⟩, ⟨d1, p1⟩, ⟨d2, p2⟩, n, rfl, rfl, _, h0, h1, h2⟩ := Go.Joins.open_agg3 Tryd.underlying24 (by kernel_rfl) (by kernel_rfl) hv h
  obtain ⟨a, e0, x0, wf⟩ := DataW.trod_int Tryd.underlying3 h0
  obtain ⟨b, e2, x2, _⟩ := DataW.trod_string Tryd.underlying9 h2
  have g0 : v0 = .int .i64 a := by simpa using e0
  have g2 : v2 = .string b := by simpa using e2
  have y2 : d2 = .lit (.string b.data.toList) := congrArg Prod.fst x2
  have hw1 : ∀ n ∈ d1.weights Tryd.prog 22, n ≤ reachBytes := fun n hn => hb n (by
    simp [DataW.weights, DataW.weightsEach, Tryd.underlying24]
    exact Or.inr (Or.inl hn))
  have hw2 : b.size ≤ reachBytes := hb _ (by
    simp [DataW.weights, DataW.weightsEach, Tryd.underlying24, y2])
  obtain ⟨A, c, l, g1, q1, q2, q3, q4⟩ := pairs_at h1 hw1
  subst g0 g1 g2
  refine ⟨a, A, c, l, b, rfl, q1, q2, ?_, by omega, q3, q4⟩
  have hm : IntKind.i64.min = -9223372036854775808 := by decide
  simpa [Lit.wf, hm] using wf
abbrev laidL : List (String × DataW Unit) := Rows.responseBackRow.laid
theorem glob_of {W : World} (h : laidMetH Tryd.prog laidL W) (hsh : W.ShapedOpen Tryd.prog) : Glob W := by
  rw [MakeChecks.laidMetH_plain _ _ _ (by kernel_rfl)] at h
  refine ⟨?_, ?_, ?_, ?_⟩
  · obtain ⟨g', t', cs, fuel, p, hg', ht', hv, hd⟩ := Lib.laidMet.reads h (n := "internal/strconv.uint64pow10") (d := Rows.laid_internal_strconv_uint64pow10) (.tail _ (.tail _ (.head _)))
    obtain rfl := Option.some.inj (gpow.symm.trans hg')
    obtain rfl := Option.some.inj ((show (Tryd.prog.globals[1]?).map (·.type) = some 104 by kernel_rfl).symm.trans ht')
    have hd' : DataW.trod (fun _ => ()) Tryd.prog W 0 (fun _ => true) false fuel 104 cs.toList = some (Lib.tabData .u64 (Lib.pow10Tab), p) := hd
    unfold Lib.TabIs
    rw [hv, ← Lib.cells_of_tab Tryd.underlying104 Tryd.underlying79 (by kernel_rfl) (by kernel_rfl) hd']
  · have hb : ((begin Tryd.prog (fun _ _ => 0) default).world.heap[0]?).bind Obj.row? = some (#[.int .i64 0], 3) := by kernel_rfl
    obtain ⟨m, hm⟩ := cell_of_shapedOpen_int hsh (of_decide_eq_true (by kernel_rfl)) hb rfl (by kernel_rfl) (by kernel_rfl) Tryd.underlying3
    obtain ⟨cs, hh, hs, _⟩ := hsh.1 _ _ _ (of_decide_eq_true (by kernel_rfl)) hb
    refine ⟨m, ?_⟩
    have h1 : 0 < cs.size := by rw [hs]; decide
    have hc : cs[0] = .int .i64 m := by
      have : W.cell? ⟨0, 0, none⟩ = some cs[0] := by simp [World.cell?, hh, h1]
      exact Option.some.inj (this.symm.trans hm)
    unfold World.var?
    rw [gmlen]
    simp only [Option.bind_some, hh]
    congr 1
    apply Array.ext
    · rw [hs]; rfl
    · intro i hi1 hi2
      have : i = 0 := by rw [hs] at hi1; simp at hi1; exact hi1
      subst this
      rw [hc]; rfl
  · exact var_iface (Lib.laidMet.reads h (n := "strconv.ErrSyntax") (d := Rows.laid_strconv_ErrSyntax) (.tail _ (.tail _ (.tail _ (.tail _ (.tail _ (.head _))))))) gsyn (by kernel_rfl) Tryd.underlying58
  · exact var_iface (Lib.laidMet.reads h (n := "strconv.ErrRange") (d := Rows.laid_strconv_ErrRange) (.tail _ (.tail _ (.tail _ (.tail _ (.head _)))))) grng (by kernel_rfl) Tryd.underlying58
end Go.Proofs.YtaopopnlnohnpaaDoor.Cg
