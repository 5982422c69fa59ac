/- Texts of this seat, joined: lemmas and walks that its statements' proofs use. -/
import Derived.Test.YtfpbpakgajddnaaGreatDoorK4
import Derived.Lib.SplitLaws
import Derived.Lib.AtoiAllCases
import Derived.Laws.RangeAny
/- Px8 -/
namespace Go.Proofs.YtfpbpakgajddnaaGreatDoor.P
open Go.Proofs.YtfpbpakgajddnaaGreatDoor.B
open Go.RowKit Go.Proofs.YtfpbpakgajddnaaGreatDoorW.PrintWords Go.Proofs.YtfpbpakgajddnaaGreatDoorW.PrintLast Go.Proofs.YtfpbpakgajddnaaGreatDoorW.PrintMore
attribute [local go_sem] run_store_float str_leq str_gtr str_geq max2_int min2_int max_two min_two max_three min_three max_four min_four
set_option linter.unusedVariables false
set_option linter.unusedSimpArgs false
open Go.Proofs.YtfpbpakgajddnaaGreatDoor.O
mutual
def manifest_Print.l0 : Nat → ByteArray → List (S120) → Int → Int → ByteArray → Option (ByteArray × Int)
  | 0, _, _, _, _, _ => none
  | k + 1, x7, x19, x20, x21, x113000 => if x21 < x20 then (if 0 ≤ x21 then (if x21 < (x19.length : Int) then ((manifest_name.f ((rd_T120 x19 x21).f0)).bind fun t125 => (if t125 = true then ((manifest_name.f ((rd_T120 x19 x21).f1)).bind fun t126 => (if t126 = true then ((manifest_near.f k (([(rd_T120 x19 x21).f2, (rd_T120 x19 x21).f3] : List Int))).bind fun t130 => (if t130 = true then (manifest_Print.j1 k x19 x20 x21 (!(Op.bytesLess x7.toList (((rd_T120 x19 x21).f0).toList))) x113000 ((rd_T120 x19 x21).f0) ((rd_T120 x19 x21).f1) ((rd_T120 x19 x21).f2) ((rd_T120 x19 x21).f3)) else (manifest_Print.j1 k x19 x20 x21 true x113000 ((rd_T120 x19 x21).f0) ((rd_T120 x19 x21).f1) ((rd_T120 x19 x21).f2) ((rd_T120 x19 x21).f3)))) else (manifest_Print.j1 k x19 x20 x21 true x113000 ((rd_T120 x19 x21).f0) ((rd_T120 x19 x21).f1) ((rd_T120 x19 x21).f2) ((rd_T120 x19 x21).f3)))) else (manifest_Print.j1 k x19 x20 x21 true x113000 ((rd_T120 x19 x21).f0) ((rd_T120 x19 x21).f1) ((rd_T120 x19 x21).f2) ((rd_T120 x19 x21).f3)))) else (none)) else (none)) else ((Builder_String.f x113000).bind fun bt141 => ((Builder_String.f bt141.2).bind fun bt146 => ((adler_Sum.f bt146.1).bind fun t148 => ((manifest_line.f k (([(⟨#[115, 117, 109]⟩ : ByteArray)] : List ByteArray)) (([t148] : List Int))).bind fun t152 => (if bt141.1.size + t152.size ≤ 9223372036854775807 then (some (bt141.1 ++ t152, 0)) else (none))))))
def manifest_Print.j1 : Nat → List (S120) → Int → Int → Bool → ByteArray → ByteArray → ByteArray → Int → Int → Option (ByteArray × Int)
  | 0, _, _, _, _, _, _, _, _, _ => none
  | k + 1, x19, x20, x21, x49, x113000, x125000, x125001, x125002, x125003 => if x49 = true then (some ((⟨#[]⟩ : ByteArray), 30)) else ((manifest_line.f k (([x125000, x125001] : List ByteArray)) (([x125002, x125003] : List Int))).bind fun t137 => ((Builder_WriteString.f x113000 t137).bind fun bt138 => (manifest_Print.l0 k x125000 x19 x20 (wrap64 (x21 + 1)) bt138.2.2)))
end
def manifest_Print.f (k : Nat) (a0 : Int) (l1 : List (S120)) : Option (ByteArray × Int) := (manifest_near.f k (([a0] : List Int))).bind fun t111 => (if t111 = true then ((manifest_line.f k (([(⟨#[103, 101, 110, 101, 114, 97, 116, 105, 111, 110]⟩ : ByteArray)] : List ByteArray)) (([a0] : List Int))).bind fun t119 => ((Builder_WriteString.f (⟨#[]⟩ : ByteArray) t119).bind fun bt120 => (manifest_Print.l0 k (⟨#[]⟩ : ByteArray) l1 (l1.length : Int) 0 bt120.2.2))) else (some ((⟨#[]⟩ : ByteArray), 30)))
set_option maxHeartbeats 8000000 in
set_option maxRecDepth 100000 in
theorem manifest_Print.calls (k : Nat) (a0 : Int) (A1 : Option Addr) (c1 : Nat) (l1 : List (S120)) (r1 : ByteArray) (r2 : Int) (w : World) (hr1 : Kd.C k120 w A1 l1.length l1) (hc1 : l1.length ≤ c1) (hG : Glob w) (h : manifest_Print.f k a0 l1 = some (r1, r2)) :
  Calls Tryz.prog 63 #[.int .i64 a0, .slice A1 l1.length c1] w fun e w' => e = .returned (.tuple #[.string r1, .int .i64 r2]) ∧ Below w.heap.size w w' := by
 have hu152 := Tryz.underlying152
 have hu120 := Tryz.underlying120
 have HR1 := Aside0.mk hr1
 have HC1 := Aside0.mk hc1
 clear hr1 hc1
 have HB := Aside0.mk (Below.refl w.heap.size w)
 have hGA := Aside0.mk hG
 clear hG
 have H : ((manifest_near.f k (([a0] : List Int))).bind fun t111 => (if t111 = true then ((manifest_line.f k (([(⟨#[103, 101, 110, 101, 114, 97, 116, 105, 111, 110]⟩ : ByteArray)] : List ByteArray)) (([a0] : List Int))).bind fun t119 => ((Builder_WriteString.f (⟨#[]⟩ : ByteArray) t119).bind fun bt120 => (manifest_Print.l0 k (⟨#[]⟩ : ByteArray) l1 (l1.length : Int) 0 bt120.2.2))) else (some ((⟨#[]⟩ : ByteArray), 30)))) = some (r1, r2) := h
 clear h
 obtain ⟨y108, hy108⟩ : ∃ y_ : List Int, y_ = (([a0] : List Int)) := ⟨_, rfl⟩
 replace H : ((manifest_near.f k y108).bind fun t111 => (if t111 = true then ((manifest_line.f k (([(⟨#[103, 101, 110, 101, 114, 97, 116, 105, 111, 110]⟩ : ByteArray)] : List ByteArray)) (([a0] : List Int))).bind fun t119 => ((Builder_WriteString.f (⟨#[]⟩ : ByteArray) t119).bind fun bt120 => (manifest_Print.l0 k (⟨#[]⟩ : ByteArray) l1 (l1.length : Int) 0 bt120.2.2))) else (some ((⟨#[]⟩ : ByteArray), 30)))) = some (r1, r2) := by first | (rw [hy108]; with_reducible exact H) | (have H2_ := (Option.bind_some _ _).symm.trans H; rw [hy108]; with_reducible exact H2_) | (have H2_ := (Option.bind_some _ _).symm.trans H; with_reducible exact H2_) | with_reducible exact H | (rw [hy108]; exact H) | exact H
 have Ny108 := Aside0.mk hy108
 clear hy108
 replace H := Option.bind_eq_some_iff.mp H
 obtain ⟨t111, A30, H⟩ := H
 replace H : (if t111 = true then ((manifest_line.f k (([(⟨#[103, 101, 110, 101, 114, 97, 116, 105, 111, 110]⟩ : ByteArray)] : List ByteArray)) (([a0] : List Int))).bind fun t119 => ((Builder_WriteString.f (⟨#[]⟩ : ByteArray) t119).bind fun bt120 => (manifest_Print.l0 k (⟨#[]⟩ : ByteArray) l1 (l1.length : Int) 0 bt120.2.2))) else (some ((⟨#[]⟩ : ByteArray), 30))) = some (r1, r2) := H
 have A3 := Aside0.mk A30
 clear A30
 by_cases c4 : t111 = true
 ·subst c4
  replace H : ((manifest_line.f k (([(⟨#[103, 101, 110, 101, 114, 97, 116, 105, 111, 110]⟩ : ByteArray)] : List ByteArray)) (([a0] : List Int))).bind fun t119 => ((Builder_WriteString.f (⟨#[]⟩ : ByteArray) t119).bind fun bt120 => (manifest_Print.l0 k (⟨#[]⟩ : ByteArray) l1 (l1.length : Int) 0 bt120.2.2))) = some (r1, r2) := by rw [if_pos rfl] at H; exact H
  obtain ⟨y113, hy113⟩ : ∃ y_ : List ByteArray, y_ = (([(⟨#[103, 101, 110, 101, 114, 97, 116, 105, 111, 110]⟩ : ByteArray)] : List ByteArray)) := ⟨_, rfl⟩
  replace H : ((manifest_line.f k y113 (([a0] : List Int))).bind fun t119 => ((Builder_WriteString.f (⟨#[]⟩ : ByteArray) t119).bind fun bt120 => (manifest_Print.l0 k (⟨#[]⟩ : ByteArray) l1 (l1.length : Int) 0 bt120.2.2))) = some (r1, r2) := by first | (rw [hy113]; with_reducible exact H) | (have H2_ := (Option.bind_some _ _).symm.trans H; rw [hy113]; with_reducible exact H2_) | (have H2_ := (Option.bind_some _ _).symm.trans H; with_reducible exact H2_) | with_reducible exact H | (rw [hy113]; exact H) | exact H
  have Ny113 := Aside0.mk hy113
  clear hy113
  obtain ⟨y116, hy116⟩ : ∃ y_ : List Int, y_ = (([a0] : List Int)) := ⟨_, rfl⟩
  replace H : ((manifest_line.f k y113 y116).bind fun t119 => ((Builder_WriteString.f (⟨#[]⟩ : ByteArray) t119).bind fun bt120 => (manifest_Print.l0 k (⟨#[]⟩ : ByteArray) l1 (l1.length : Int) 0 bt120.2.2))) = some (r1, r2) := by first | (rw [hy116]; with_reducible exact H) | (have H2_ := (Option.bind_some _ _).symm.trans H; rw [hy116]; with_reducible exact H2_) | (have H2_ := (Option.bind_some _ _).symm.trans H; with_reducible exact H2_) | with_reducible exact H | (rw [hy116]; exact H) | exact H
  have Ny116 := Aside0.mk hy116
  clear hy116
  replace H := Option.bind_eq_some_iff.mp H
  obtain ⟨t119, A50, H⟩ := H
  replace H : ((Builder_WriteString.f (⟨#[]⟩ : ByteArray) t119).bind fun bt120 => (manifest_Print.l0 k (⟨#[]⟩ : ByteArray) l1 (l1.length : Int) 0 bt120.2.2)) = some (r1, r2) := H
  have A5 := Aside0.mk A50
  clear A50
  replace H := Option.bind_eq_some_iff.mp H
  obtain ⟨⟨t120, t121, t122⟩, A60, H⟩ := H
  replace H : (manifest_Print.l0 k (⟨#[]⟩ : ByteArray) l1 (l1.length : Int) 0 t122) = some (r1, r2) := H
  have A6 := Aside0.mk A60
  clear A60
  have H' := Aside0.mk H
  clear H
  go_enter Tryz.func63, Tryz.ntmps63
  go_wp2_with (first | ((with_reducible refine gate_dst (N := 11) rfl ?_); (try (refine gate_guard (by rfl) ?_; dsimp only)); refine Kd.R_lit (Kd.int .i64) _ 3 ?hg (N := 11) ?hd (xs := ([a0] : List Int)) (inner := [.int .i64 a0]) (ok := fun _ => True) (okp := fun _ => True) ?hr ?hp (fun _ hk => hk) trivial (Below.refl _ _) (Nat.le_refl _) zb35 ?_; (case hd => rfl); (case hg => rfl); (case hr => first | (go_simp; done) | (go_simp; rfl)); (case hp => exact (Reps.one (show Kd.M (Kd.int .i64) _ _ _ a0 [.int .i64 a0] from rfl) (Reps.none _ _))); intro v109 w7 ho8 hb hg_ hnew_; clear hg_ hnew_; (first | rw [← Ny108.out] at ho8 | (simp only [Int.reduceToNat] at ho8; rw [← Ny108.out] at ho8)); have n0_ := Aside0.mk (Kd.R_lower ho8 (below_size zb1)); have n1_ := Aside0.mk (below_step zb1 hb); clear HB; have HO110 := n0_; have HB := n1_; clear n0_ n1_; clear hb ho8; obtain ⟨Ao9, co9, eo9⟩ := Kd.R_slice HO110.out; subst eo9) | ((with_reducible refine gate_callee (f := 108) rfl ?_); refine goesL_ (some 12) rfl rfl Tryz.func108 zb10 rfl #[.slice Ao9 y108.length co9] rfl zb3 ?_; (with_reducible refine (manifest_near.calls k _ _ y108 true _ ?side1 ?side2 A3.out).mono ?_); (case side1 => repeat (first | exact (Kd.R_reads' HO110.out).2.2 | (with_reducible refine Kd.C_alloc ?_ _) | (with_reducible refine Kd.C_drewN ?_ _) | (with_reducible refine Kd.C_drew ?_))); (case side2 => exact (Kd.R_reads' HO110.out).2.1); rintro e w' ⟨rfl, ⟨nd, rfl⟩⟩; refine ⟨_, rfl, ?_⟩) | ((with_reducible refine gate_dst (N := 6) rfl ?_); (try (refine gate_guard (by rfl) ?_; dsimp only)); refine box_event ?hg (N := 6) ?hd (cs := #[.pointer none, .slice none 0 0]) (t := 152) ?hr ?_; (case hd => rfl); (case hg => rfl); (case hr => first | (go_simp; done) | (go_simp; rfl)); intro gb112 hg w10 hbox hb; have n0_ := Aside0.mk (Kd.R_below zb37 hb); have n1_ := Aside0.mk (below_step zb1 hb); have n2_ := Aside0.mk ((by rw [hg]; exact (below_size zb1) : w.heap.size ≤ gb112)); have n3_ := Aside0.mk ((by rw [hg]; exact (below_size zb1) : w.heap.size ≤ gb112)); have n4_ := Aside0.mk ((show IsS152 w w10 gb112 (⟨#[]⟩ : ByteArray) from IsS152.new hbox (by rw [hg]; exact (below_size zb1)))); clear HO110; clear HB; have HO110 := n0_; have HB := n1_; have GW112 := n2_; have GE112 := n3_; have HI112 := n4_; clear n0_ n1_ n2_ n3_ n4_; clear hb hbox hg) | ((with_reducible refine gate_dst (N := 14) rfl ?_); (try (refine gate_guard (by rfl) ?_; dsimp only)); refine Kd.R_lit Kd.string _ 9 ?hg (N := 14) ?hd (xs := ([(⟨#[103, 101, 110, 101, 114, 97, 116, 105, 111, 110]⟩ : ByteArray)] : List ByteArray)) (inner := [.string (⟨#[103, 101, 110, 101, 114, 97, 116, 105, 111, 110]⟩ : ByteArray)]) (ok := fun _ => True) (okp := fun _ => True) ?hr ?hp (fun _ hk => hk) trivial (Below.refl _ _) (Nat.le_refl _) zb35 ?_; (case hd => rfl); (case hg => rfl); (case hr => first | (go_simp; done) | (go_simp; rfl)); (case hp => exact (Reps.one (show Kd.M Kd.string _ _ _ (⟨#[103, 101, 110, 101, 114, 97, 116, 105, 111, 110]⟩ : ByteArray) [.string (⟨#[103, 101, 110, 101, 114, 97, 116, 105, 111, 110]⟩ : ByteArray)] from rfl) (Reps.none _ _))); intro v114 w11 ho12 hb hg_ hnew_; clear hg_ hnew_; (first | rw [← Ny113.out] at ho12 | (simp only [Int.reduceToNat] at ho12; rw [← Ny113.out] at ho12)); have n0_ := Aside0.mk (Kd.R_below zb37 hb); have n1_ := Aside0.mk (Kd.R_lower ho12 (below_size zb12)); have n2_ := Aside0.mk (IsS152.below zb23 hb); have n3_ := Aside0.mk (below_step zb12 hb); clear HO110; clear HI112; clear HB; have HO110 := n0_; have HO115 := n1_; have HI112 := n2_; have HB := n3_; clear n0_ n1_ n2_ n3_; clear hb ho12) | ((with_reducible refine gate_dst (N := 16) rfl ?_); (try (refine gate_guard (by rfl) ?_; dsimp only)); refine Kd.R_lit (Kd.int .i64) _ 3 ?hg (N := 16) ?hd (xs := ([a0] : List Int)) (inner := [.int .i64 a0]) (ok := fun _ => True) (okp := fun _ => True) ?hr ?hp (fun _ hk => hk) trivial (Below.refl _ _) (Nat.le_refl _) zb35 ?_; (case hd => rfl); (case hg => rfl); (case hr => first | (go_simp; done) | (go_simp; rfl)); (case hp => exact (Reps.one (show Kd.M (Kd.int .i64) _ _ _ a0 [.int .i64 a0] from rfl) (Reps.none _ _))); intro v117 w13 ho14 hb hg_ hnew_; clear hg_ hnew_; (first | rw [← Ny116.out] at ho14 | (simp only [Int.reduceToNat] at ho14; rw [← Ny116.out] at ho14)); have n0_ := Aside0.mk (Kd.R_elder' zb37 (Kd.R_base ho14) hb); have n1_ := Aside0.mk (Kd.R_below (by (with_reducible repeat (first | apply Kd.R_alloc | apply Kd.R_drewN | apply Kd.R_drew)); exact HO115.out) hb); have n2_ := Aside0.mk (Kd.R_lower (Kd.R_new' ho14 (Kd.R_lt zb37)) (below_size zb12)); have n3_ := Aside0.mk (IsS152.below zb23 hb); have n4_ := Aside0.mk (below_step zb12 hb); clear HO110; clear HO115; clear HI112; clear HB; have HO110 := n0_; have HO115 := n1_; have HO118 := n2_; have HI112 := n3_; have HB := n4_; clear n0_ n1_ n2_ n3_ n4_; clear hb ho14; obtain ⟨Ao15, co15, eo15⟩ := Kd.R_slice HO115.out; subst eo15; obtain ⟨Ao16, co16, eo16⟩ := Kd.R_slice HO118.out; subst eo16) | ((with_reducible refine gate_callee (f := 110) rfl ?_); refine goesL_ (some 17) rfl rfl Tryz.func110 zb10 rfl #[.slice Ao15 y113.length co15, .slice Ao16 y116.length co16] rfl zb3 ?_; (with_reducible refine (manifest_line.calls k (fun k_ => some k_ = (.slice Ao15 y113.length co15 : Value).ownBlock) (.slice Ao15 y113.length co15) y113 _ _ y116 t119 w _ ?side1 ?side2 ?side3 ?side4 ?side5 A5.out).mono ?_); (case side1 => repeat (first | (with_reducible first | exact HB.out | apply below_alloc | apply pw_below_drewN | apply below_drew1 | refine below_set ?_ (IsS152.ge HI112.out)) | exact HB.out)); (case side2 => exact Kd.R_tight rfl HO115.out); (case side3 => exact Kd.C_kept_own ((Kd.R_apart' HO118.out (Kd.R_typed HO115.out) zb25)) (fun k_ hk_ hs_ => (hk_.2) hs_)); (case side4 => exact (Kd.R_reads' HO118.out).2.1); (case side5 => exact hGA.out); rintro e w17 ⟨rfl, hb, hkp⟩; refine ⟨_, rfl, ?_⟩; have n0_ := Aside0.mk (Kd.R_mono (ok' := fun k_ => some k_ ≠ (.slice Ao16 y116.length co16 : Value).ownBlock) (Kd.R_keptB ((Kd.R_apart' HO110.out (Kd.R_typed HO115.out) zb25)) hkp (fun k_ hk_ hs_ => (hk_.2) hs_)) (fun k_ hk_ => hk_.1.1.2)); have n1_ := Aside0.mk (IsS152.kept zb23 hkp (fun k_ hs_ => (fun e_ => IsS152.own_far HI112.out HO115.out zb25 k_ e_.symm) hs_)); have n2_ := Aside0.mk (Kd.R_mono (ok' := fun k_ => some k_ ≠ (.slice Ao9 y108.length co9 : Value).ownBlock) (Kd.R_keptB ((Kd.R_apart' HO118.out (Kd.R_typed HO115.out) zb25)) hkp (fun k_ hk_ hs_ => (hk_.2) hs_)) (fun k_ hk_ => hk_.1.1.2)); have n3_ := Aside0.mk (hb); clear HO110; clear HI112; clear HO118; clear HB; clear HO115; have HO110 := n0_; have HI112 := n1_; have HO118 := n2_; have HB := n3_; clear n0_ n1_ n2_ n3_; (try clear hb); (try clear hkp)) | ((with_reducible refine gate_callee (f := 109) rfl ?_); refine goesL_ (some 18) rfl rfl Tryz.func109 zb10 rfl #[.pointer (some ⟨gb112, 0, none⟩), .string t119] rfl zb3 ?_; (with_reducible refine (Builder_WriteString.calls gb112 (⟨#[]⟩ : ByteArray) t119 t120 t121 t122 w _ ?side1 ?side2 A6.out).mono ?_); (case side1 => repeat (first | (with_reducible first | exact HI112.out | apply IsS152.alloc | apply IsS152.drewN | apply IsS152.drew) | exact HI112.out)); (case side2 => repeat (first | (with_reducible first | exact HB.out | apply below_alloc | apply pw_below_drewN | apply below_drew1 | refine below_set ?_ (IsS152.ge HI112.out)) | exact HB.out)); rintro e w18 ⟨rfl, hi, hb, hk⟩; refine ⟨_, rfl, ?_⟩; have n0_ := Aside0.mk (Kd.R_mono (R_keepB (IsS152.apart (show IsS152 w _ gb112 (⟨#[]⟩ : ByteArray) from by repeat (first | (with_reducible first | exact HI112.out | apply IsS152.alloc | apply IsS152.drewN | apply IsS152.drew) | exact HI112.out)) zb37 zb25) hk zb25) (fun _ h => h.1)); have n1_ := Aside0.mk (Kd.R_mono (R_keepB (IsS152.apart (show IsS152 w _ gb112 (⟨#[]⟩ : ByteArray) from by repeat (first | (with_reducible first | exact HI112.out | apply IsS152.alloc | apply IsS152.drewN | apply IsS152.drew) | exact HI112.out)) (by (with_reducible repeat (first | apply Kd.R_alloc | apply Kd.R_drewN | apply Kd.R_drew)); exact HO118.out) zb25) hk zb25) (fun _ h => h.1)); have n2_ := Aside0.mk (hb); have n3_ := Aside0.mk (hi); clear HO110; clear HO118; clear HB; clear HI112; have HO110 := n0_; have HO118 := n1_; have HB := n2_; have HI112 := n3_; clear n0_ n1_ n2_ n3_; (try clear hb); (try clear hk); (try clear hi); (try simp only [errW_none, errW_some])))
  first | go_loopg [7, 21] k (fun kq v7 v21 w' => ∃ (x7_1 : ByteArray) (x21_1 : Int) (x113000_1 : ByteArray), v7 = .string x7_1 ∧ v21 = .int .i64 x21_1 ∧ Aside0 (manifest_Print.l0 kq x7_1 l1 (l1.length : Int) x21_1 x113000_1 = some (r1, r2)) ∧ Aside0 (kq ≤ k) ∧ Aside0 (IsS152 w w' gb112 x113000_1) ∧ Aside0 (Below w.heap.size w w')) | (go_simp; go_loopg [7, 21] k (fun kq v7 v21 w' => ∃ (x7_1 : ByteArray) (x21_1 : Int) (x113000_1 : ByteArray), v7 = .string x7_1 ∧ v21 = .int .i64 x21_1 ∧ Aside0 (manifest_Print.l0 kq x7_1 l1 (l1.length : Int) x21_1 x113000_1 = some (r1, r2)) ∧ Aside0 (kq ≤ k) ∧ Aside0 (IsS152 w w' gb112 x113000_1) ∧ Aside0 (Below w.heap.size w w')))
  case atStart => exact ⟨((⟨#[]⟩ : ByteArray)), (0), (t122), zb14, zb14, H', ⟨Nat.le_refl _⟩, ⟨by repeat (first | (with_reducible first | exact HI112.out | apply IsS152.alloc | apply IsS152.drewN | apply IsS152.drew) | exact HI112.out)⟩, ⟨by repeat (first | (with_reducible first | exact HB.out | apply below_alloc | apply pw_below_drewN | apply below_drew1 | refine below_set ?_ (IsS152.ge HI112.out)) | exact HB.out)⟩⟩
  case round =>
   clear H'
   try clear c1
   try clear p2
   try clear c4
   try clear c6
   try clear c10
   try clear c11
   obtain ⟨x7_1, x21_1, x113000_1, rfl, rfl, HA, HK1, HI112, HB⟩ := hrel
   cases gk with
   | zero => exact absurd HA.out (by simp [manifest_Print.l0])
   | succ k1 =>
    have H := HA.out
    clear HA
    simp only [manifest_Print.l0] at H
    by_cases c19 : x21_1 < (l1.length : Int)
    ·rw [if_pos c19] at H
     have c19b0 : decide (x21_1 < (l1.length : Int)) = true := decide_eq_true c19
     clear c19
     by_cases c20 : 0 ≤ x21_1
     ·rw [if_pos c20] at H
      have c20b0 : decide (0 ≤ x21_1) = true := decide_eq_true c20
      clear c20
      by_cases c21 : x21_1 < (l1.length : Int)
      ·rw [if_pos c21] at H
       have c21b0 : decide (x21_1 < (l1.length : Int)) = true := decide_eq_true c21
       clear c21
       have HC22 := Aside0.mk H
       clear H
       have p123 : 0 ≤ (x21_1 : Int) := of_decide_eq_true zb5
       have q123 : x21_1 < (l1.length : Int) := of_decide_eq_true zb5
       obtain ⟨ad123, e123, hx123_0, hx123_1, hx123_2, hx123_3⟩ := at_T120 HR1.out x21_1 p123 q123
       cases e123
       replace hx123_0 := (HB.out.cell (World.block_lt_of_cell? w _ hx123_0)).trans hx123_0
       replace hx123_1 := (HB.out.cell (World.block_lt_of_cell? w _ hx123_1)).trans hx123_1
       replace hx123_2 := (HB.out.cell (World.block_lt_of_cell? w _ hx123_2)).trans hx123_2
       replace hx123_3 := (HB.out.cell (World.block_lt_of_cell? w _ hx123_3)).trans hx123_3
       replace p123 := eq_true p123
       replace q123 := eq_true q123
       go_upto_region 9 with (first | ((with_reducible refine gate_dst (N := 9) rfl ?_); (try (refine gate_guard (by rfl) ?_; dsimp only)); refine box_event ?hg (N := 9) ?hd (cs := #[.string (⟨#[]⟩ : ByteArray), .string (⟨#[]⟩ : ByteArray), .int .i64 0, .int .i64 0]) (t := 120) ?hr ?_; (case hd => rfl); (case hg => rfl); (case hr => first | (go_simp; done) | (go_simp; rfl)); intro gb124 hg w23 hbox hb; have n0_ := Aside0.mk (IsS152.below zb23 hb); have n1_ := Aside0.mk (below_step zb12 hb); have n2_ := Aside0.mk (hbox); have n3_ := Aside0.mk ((by rw [hg]; exact (below_size zb12) : w.heap.size ≤ gb124)); have n4_ := Aside0.mk ((by rw [hg]; exact (below_size zb12) : w.heap.size ≤ gb124)); have n5_ := Aside0.mk ((by rw [hg]; exact Nat.ne_of_lt (IsS152.lt (show IsS152 w _ gb112 x113000_1 from by repeat (first | (with_reducible first | exact HI112.out | apply IsS152.alloc | apply IsS152.drewN | apply IsS152.drew) | exact HI112.out))) : gb112 ≠ gb124)); have n6_ := Aside0.mk ((by rw [hg]; exact Nat.ne_of_gt (IsS152.lt (show IsS152 w _ gb112 x113000_1 from by repeat (first | (with_reducible first | exact HI112.out | apply IsS152.alloc | apply IsS152.drewN | apply IsS152.drew) | exact HI112.out))) : gb124 ≠ gb112)); clear HI112; clear HB; have HI112 := n0_; have HB := n1_; have BK124 := n2_; have GW124 := n3_; have GE124 := n4_; have NB112_124 := n5_; have NB124_112 := n6_; clear n0_ n1_ n2_ n3_ n4_ n5_ n6_; clear hb hbox hg; have hnb24 := NB124_112.out; have hnc24 := NB112_124.out; have hcz25_0 : w23.cell? ⟨gb124, 0, none⟩ = some (.string (⟨#[]⟩ : ByteArray)) := (blk_cell BK124.out 0).trans rfl; have hcz25_1 : w23.cell? ⟨gb124, 1, none⟩ = some (.string (⟨#[]⟩ : ByteArray)) := (blk_cell BK124.out 1).trans rfl; have hcz25_2 : w23.cell? ⟨gb124, 2, none⟩ = some (.int .i64 0) := (blk_cell BK124.out 2).trans rfl; have hcz25_3 : w23.cell? ⟨gb124, 3, none⟩ = some (.int .i64 0) := (blk_cell BK124.out 3).trans rfl; have hfz25_0 := blk_frozen BK124.out 0; have hfz25_1 := blk_frozen BK124.out 1; have hfz25_2 := blk_frozen BK124.out 2; have hfz25_3 := blk_frozen BK124.out 3))
       (try simp only [Act.put, List.setIfInBounds_toArray, List.set_cons_zero, List.set_cons_succ])
       go_cut [49] (fun v49 wc => ∃ (kq : Nat) (x49_21 : Bool), v49 = .bool x49_21 ∧ Aside0 (manifest_Print.j1 kq l1 (l1.length : Int) x21_1 x49_21 x113000_1 ((rd_T120 l1 x21_1).f0) ((rd_T120 l1 x21_1).f1) ((rd_T120 l1 x21_1).f2) ((rd_T120 l1 x21_1).f3) = some (r1, r2)) ∧ Aside0 (kq ≤ k1) ∧ Aside0 (wc.heap[gb124]? = some (.cells #[.string ((rd_T120 l1 x21_1).f0), .string ((rd_T120 l1 x21_1).f1), .int .i64 ((rd_T120 l1 x21_1).f2), .int .i64 ((rd_T120 l1 x21_1).f3)] 120 (0, 0))) ∧ Aside0 (IsS152 w wc gb112 x113000_1) ∧ Aside0 (Below w.heap.size w wc))
       case first =>
        have H := HC22.out
        clear HC22
        replace H := Option.bind_eq_some_iff.mp H
        obtain ⟨t125, A260, H⟩ := H
        replace H : (if t125 = true then ((manifest_name.f ((rd_T120 l1 x21_1).f1)).bind fun t126 => (if t126 = true then ((manifest_near.f k1 (([(rd_T120 l1 x21_1).f2, (rd_T120 l1 x21_1).f3] : List Int))).bind fun t130 => (if t130 = true then (manifest_Print.j1 k1 l1 (l1.length : Int) x21_1 (!(Op.bytesLess x7_1.toList (((rd_T120 l1 x21_1).f0).toList))) x113000_1 ((rd_T120 l1 x21_1).f0) ((rd_T120 l1 x21_1).f1) ((rd_T120 l1 x21_1).f2) ((rd_T120 l1 x21_1).f3)) else (manifest_Print.j1 k1 l1 (l1.length : Int) x21_1 true x113000_1 ((rd_T120 l1 x21_1).f0) ((rd_T120 l1 x21_1).f1) ((rd_T120 l1 x21_1).f2) ((rd_T120 l1 x21_1).f3)))) else (manifest_Print.j1 k1 l1 (l1.length : Int) x21_1 true x113000_1 ((rd_T120 l1 x21_1).f0) ((rd_T120 l1 x21_1).f1) ((rd_T120 l1 x21_1).f2) ((rd_T120 l1 x21_1).f3)))) else (manifest_Print.j1 k1 l1 (l1.length : Int) x21_1 true x113000_1 ((rd_T120 l1 x21_1).f0) ((rd_T120 l1 x21_1).f1) ((rd_T120 l1 x21_1).f2) ((rd_T120 l1 x21_1).f3))) = some (r1, r2) := H
        have A26 := Aside0.mk A260
        clear A260
        by_cases c27 : t125 = true
        ·subst c27
         replace H : ((manifest_name.f ((rd_T120 l1 x21_1).f1)).bind fun t126 => (if t126 = true then ((manifest_near.f k1 (([(rd_T120 l1 x21_1).f2, (rd_T120 l1 x21_1).f3] : List Int))).bind fun t130 => (if t130 = true then (manifest_Print.j1 k1 l1 (l1.length : Int) x21_1 (!(Op.bytesLess x7_1.toList (((rd_T120 l1 x21_1).f0).toList))) x113000_1 ((rd_T120 l1 x21_1).f0) ((rd_T120 l1 x21_1).f1) ((rd_T120 l1 x21_1).f2) ((rd_T120 l1 x21_1).f3)) else (manifest_Print.j1 k1 l1 (l1.length : Int) x21_1 true x113000_1 ((rd_T120 l1 x21_1).f0) ((rd_T120 l1 x21_1).f1) ((rd_T120 l1 x21_1).f2) ((rd_T120 l1 x21_1).f3)))) else (manifest_Print.j1 k1 l1 (l1.length : Int) x21_1 true x113000_1 ((rd_T120 l1 x21_1).f0) ((rd_T120 l1 x21_1).f1) ((rd_T120 l1 x21_1).f2) ((rd_T120 l1 x21_1).f3)))) = some (r1, r2) := by rw [if_pos rfl] at H; exact H
         replace H := Option.bind_eq_some_iff.mp H
         obtain ⟨t126, A280, H⟩ := H
         replace H : (if t126 = true then ((manifest_near.f k1 (([(rd_T120 l1 x21_1).f2, (rd_T120 l1 x21_1).f3] : List Int))).bind fun t130 => (if t130 = true then (manifest_Print.j1 k1 l1 (l1.length : Int) x21_1 (!(Op.bytesLess x7_1.toList (((rd_T120 l1 x21_1).f0).toList))) x113000_1 ((rd_T120 l1 x21_1).f0) ((rd_T120 l1 x21_1).f1) ((rd_T120 l1 x21_1).f2) ((rd_T120 l1 x21_1).f3)) else (manifest_Print.j1 k1 l1 (l1.length : Int) x21_1 true x113000_1 ((rd_T120 l1 x21_1).f0) ((rd_T120 l1 x21_1).f1) ((rd_T120 l1 x21_1).f2) ((rd_T120 l1 x21_1).f3)))) else (manifest_Print.j1 k1 l1 (l1.length : Int) x21_1 true x113000_1 ((rd_T120 l1 x21_1).f0) ((rd_T120 l1 x21_1).f1) ((rd_T120 l1 x21_1).f2) ((rd_T120 l1 x21_1).f3))) = some (r1, r2) := H
         have A28 := Aside0.mk A280
         clear A280
         by_cases c29 : t126 = true
         ·subst c29
          replace H : ((manifest_near.f k1 (([(rd_T120 l1 x21_1).f2, (rd_T120 l1 x21_1).f3] : List Int))).bind fun t130 => (if t130 = true then (manifest_Print.j1 k1 l1 (l1.length : Int) x21_1 (!(Op.bytesLess x7_1.toList (((rd_T120 l1 x21_1).f0).toList))) x113000_1 ((rd_T120 l1 x21_1).f0) ((rd_T120 l1 x21_1).f1) ((rd_T120 l1 x21_1).f2) ((rd_T120 l1 x21_1).f3)) else (manifest_Print.j1 k1 l1 (l1.length : Int) x21_1 true x113000_1 ((rd_T120 l1 x21_1).f0) ((rd_T120 l1 x21_1).f1) ((rd_T120 l1 x21_1).f2) ((rd_T120 l1 x21_1).f3)))) = some (r1, r2) := by rw [if_pos rfl] at H; exact H
          obtain ⟨y127, hy127⟩ : ∃ y_ : List Int, y_ = (([(rd_T120 l1 x21_1).f2, (rd_T120 l1 x21_1).f3] : List Int)) := ⟨_, rfl⟩
          replace H : ((manifest_near.f k1 y127).bind fun t130 => (if t130 = true then (manifest_Print.j1 k1 l1 (l1.length : Int) x21_1 (!(Op.bytesLess x7_1.toList (((rd_T120 l1 x21_1).f0).toList))) x113000_1 ((rd_T120 l1 x21_1).f0) ((rd_T120 l1 x21_1).f1) ((rd_T120 l1 x21_1).f2) ((rd_T120 l1 x21_1).f3)) else (manifest_Print.j1 k1 l1 (l1.length : Int) x21_1 true x113000_1 ((rd_T120 l1 x21_1).f0) ((rd_T120 l1 x21_1).f1) ((rd_T120 l1 x21_1).f2) ((rd_T120 l1 x21_1).f3)))) = some (r1, r2) := by first | (rw [hy127]; with_reducible exact H) | (have H2_ := (Option.bind_some _ _).symm.trans H; rw [hy127]; with_reducible exact H2_) | (have H2_ := (Option.bind_some _ _).symm.trans H; with_reducible exact H2_) | with_reducible exact H | (rw [hy127]; exact H) | exact H
          have Ny127 := Aside0.mk hy127
          clear hy127
          replace H := Option.bind_eq_some_iff.mp H
          obtain ⟨t130, A300, H⟩ := H
          replace H : (if t130 = true then (manifest_Print.j1 k1 l1 (l1.length : Int) x21_1 (!(Op.bytesLess x7_1.toList (((rd_T120 l1 x21_1).f0).toList))) x113000_1 ((rd_T120 l1 x21_1).f0) ((rd_T120 l1 x21_1).f1) ((rd_T120 l1 x21_1).f2) ((rd_T120 l1 x21_1).f3)) else (manifest_Print.j1 k1 l1 (l1.length : Int) x21_1 true x113000_1 ((rd_T120 l1 x21_1).f0) ((rd_T120 l1 x21_1).f1) ((rd_T120 l1 x21_1).f2) ((rd_T120 l1 x21_1).f3))) = some (r1, r2) := H
          have A30 := Aside0.mk A300
          clear A300
          by_cases c31 : t130 = true
          ·subst c31
           replace H : (manifest_Print.j1 k1 l1 (l1.length : Int) x21_1 (!(Op.bytesLess x7_1.toList (((rd_T120 l1 x21_1).f0).toList))) x113000_1 ((rd_T120 l1 x21_1).f0) ((rd_T120 l1 x21_1).f1) ((rd_T120 l1 x21_1).f2) ((rd_T120 l1 x21_1).f3)) = some (r1, r2) := by rw [if_pos rfl] at H; exact H
           have H' := Aside0.mk H
           clear H
           have hnb32 := NB124_112.out
           have hnc32 := NB112_124.out
           have hcz33_0 : w23.cell? ⟨gb124, 0, none⟩ = some (.string (⟨#[]⟩ : ByteArray)) := (blk_cell BK124.out 0).trans rfl
           have hcz33_1 : w23.cell? ⟨gb124, 1, none⟩ = some (.string (⟨#[]⟩ : ByteArray)) := (blk_cell BK124.out 1).trans rfl
           have hcz33_2 : w23.cell? ⟨gb124, 2, none⟩ = some (.int .i64 0) := (blk_cell BK124.out 2).trans rfl
           have hcz33_3 : w23.cell? ⟨gb124, 3, none⟩ = some (.int .i64 0) := (blk_cell BK124.out 3).trans rfl
           have hfz33_0 := blk_frozen BK124.out 0
           have hfz33_1 := blk_frozen BK124.out 1
           have hfz33_2 := blk_frozen BK124.out 2
           have hfz33_3 := blk_frozen BK124.out 3
           go_wp2_with (first | ((with_reducible refine gate_callee (f := 111) rfl ?_); refine goesL_ (some 27) rfl rfl Tryz.func111 zb10 rfl #[.string ((rd_T120 l1 x21_1).f0)] rfl zb3 ?_; (with_reducible refine (manifest_name.calls ((rd_T120 l1 x21_1).f0) true _ A26.out).mono ?_); rintro e w34 ⟨rfl, hb⟩; refine ⟨_, rfl, ?_⟩; have n0_ := Aside0.mk (IsS152.below (show IsS152 w ((((w23.setCell ⟨gb124, 0, none⟩ (.string ((rd_T120 l1 x21_1).f0))).setCell ⟨gb124, 1, none⟩ (.string ((rd_T120 l1 x21_1).f1))).setCell ⟨gb124, 2, none⟩ (.int .i64 ((rd_T120 l1 x21_1).f2))).setCell ⟨gb124, 3, none⟩ (.int .i64 ((rd_T120 l1 x21_1).f3))) gb112 x113000_1 from by repeat (first | (with_reducible first | exact HI112.out | apply IsS152.alloc | apply IsS152.drewN | apply IsS152.drew | refine IsS152.farB ?_ NB112_124.out zb22 zb25 _) | exact HI112.out)) hb); have n1_ := Aside0.mk (blk_below (g := gb124) (o := .cells #[.string ((rd_T120 l1 x21_1).f0), .string ((rd_T120 l1 x21_1).f1), .int .i64 ((rd_T120 l1 x21_1).f2), .int .i64 ((rd_T120 l1 x21_1).f3)] 120 (0, 0)) zb7 hb); have n2_ := Aside0.mk (below_step zb8 hb); clear HI112; clear BK124; clear HB; have HI112 := n0_; have BK124 := n1_; have HB := n2_; clear n0_ n1_ n2_; (try clear hb); (try clear hb2); (try clear hk); (try clear hi); have hcz35_0 : w34.cell? ⟨gb124, 0, none⟩ = some (.string ((rd_T120 l1 x21_1).f0)) := (blk_cell BK124.out 0).trans rfl; have hcz35_1 : w34.cell? ⟨gb124, 1, none⟩ = some (.string ((rd_T120 l1 x21_1).f1)) := (blk_cell BK124.out 1).trans rfl; have hcz35_2 : w34.cell? ⟨gb124, 2, none⟩ = some (.int .i64 ((rd_T120 l1 x21_1).f2)) := (blk_cell BK124.out 2).trans rfl; have hcz35_3 : w34.cell? ⟨gb124, 3, none⟩ = some (.int .i64 ((rd_T120 l1 x21_1).f3)) := (blk_cell BK124.out 3).trans rfl; have hfz35_0 := blk_frozen BK124.out 0; have hfz35_1 := blk_frozen BK124.out 1; have hfz35_2 := blk_frozen BK124.out 2; have hfz35_3 := blk_frozen BK124.out 3) | (go_at_call 111; (with_reducible refine (manifest_name.calls ((rd_T120 l1 x21_1).f1) true _ A28.out).mono ?_); rintro e w36 ⟨rfl, hb⟩; have n0_ := Aside0.mk (IsS152.below zb11 hb); have n1_ := Aside0.mk (blk_below (g := gb124) (o := .cells #[.string ((rd_T120 l1 x21_1).f0), .string ((rd_T120 l1 x21_1).f1), .int .i64 ((rd_T120 l1 x21_1).f2), .int .i64 ((rd_T120 l1 x21_1).f3)] 120 (0, 0)) zb24 hb); have n2_ := Aside0.mk (below_step zb8 hb); clear HI112; clear BK124; clear HB; have HI112 := n0_; have BK124 := n1_; have HB := n2_; clear n0_ n1_ n2_; (try clear hb); (try clear hb2); (try clear hk); (try clear hi); have hcz37_0 : w36.cell? ⟨gb124, 0, none⟩ = some (.string ((rd_T120 l1 x21_1).f0)) := (blk_cell BK124.out 0).trans rfl; have hcz37_1 : w36.cell? ⟨gb124, 1, none⟩ = some (.string ((rd_T120 l1 x21_1).f1)) := (blk_cell BK124.out 1).trans rfl; have hcz37_2 : w36.cell? ⟨gb124, 2, none⟩ = some (.int .i64 ((rd_T120 l1 x21_1).f2)) := (blk_cell BK124.out 2).trans rfl; have hcz37_3 : w36.cell? ⟨gb124, 3, none⟩ = some (.int .i64 ((rd_T120 l1 x21_1).f3)) := (blk_cell BK124.out 3).trans rfl; have hfz37_0 := blk_frozen BK124.out 0; have hfz37_1 := blk_frozen BK124.out 1; have hfz37_2 := blk_frozen BK124.out 2; have hfz37_3 := blk_frozen BK124.out 3) | ((with_reducible refine gate_dst (N := 40) rfl ?_); (try (refine gate_guard (by rfl) ?_; dsimp only)); refine Kd.R_lit (Kd.int .i64) _ 3 ?hg (N := 40) ?hd (xs := ([(rd_T120 l1 x21_1).f2, (rd_T120 l1 x21_1).f3] : List Int)) (inner := [.int .i64 ((rd_T120 l1 x21_1).f2), .int .i64 ((rd_T120 l1 x21_1).f3)]) (ok := fun _ => True) (okp := fun _ => True) ?hr ?hp (fun _ hk => hk) trivial (Below.refl _ _) (Nat.le_refl _) zb35 ?_; (case hd => rfl); (case hg => rfl); (case hr => first | (go_simp; done) | (go_simp; rfl)); (case hp => exact (Reps.one (show Kd.M (Kd.int .i64) _ _ _ ((rd_T120 l1 x21_1).f2) [.int .i64 ((rd_T120 l1 x21_1).f2)] from rfl) (Reps.one (show Kd.M (Kd.int .i64) _ _ _ ((rd_T120 l1 x21_1).f3) [.int .i64 ((rd_T120 l1 x21_1).f3)] from rfl) (Reps.none _ _)))); intro v128 w38 ho39 hb hg_ hnew_; clear hg_ hnew_; (first | rw [← Ny127.out] at ho39 | (simp only [Int.reduceToNat] at ho39; rw [← Ny127.out] at ho39)); have n0_ := Aside0.mk (Kd.R_lower ho39 (below_size zb8)); have n1_ := Aside0.mk (IsS152.below zb11 hb); have n2_ := Aside0.mk (blk_below (g := gb124) (o := .cells #[.string ((rd_T120 l1 x21_1).f0), .string ((rd_T120 l1 x21_1).f1), .int .i64 ((rd_T120 l1 x21_1).f2), .int .i64 ((rd_T120 l1 x21_1).f3)] 120 (0, 0)) zb24 hb); have n3_ := Aside0.mk (below_step zb8 hb); clear HI112; clear BK124; clear HB; have HO129 := n0_; have HI112 := n1_; have BK124 := n2_; have HB := n3_; clear n0_ n1_ n2_ n3_; clear hb ho39; obtain ⟨Ao40, co40, eo40⟩ := Kd.R_slice HO129.out; subst eo40) | (go_at_call 108; (with_reducible refine (manifest_near.calls k1 _ _ y127 true _ ?side1 ?side2 A30.out).mono ?_); (case side1 => repeat (first | exact (Kd.R_reads' HO129.out).2.2 | (with_reducible refine Kd.C_alloc ?_ _) | (with_reducible refine Kd.C_drewN ?_ _) | (with_reducible refine Kd.C_drew ?_))); (case side2 => exact (Kd.R_reads' HO129.out).2.1); rintro e w' ⟨rfl, ⟨nd, rfl⟩⟩; have hcz41_0 : w38.cell? ⟨gb124, 0, none⟩ = some (.string ((rd_T120 l1 x21_1).f0)) := (blk_cell BK124.out 0).trans rfl; have hcz41_1 : w38.cell? ⟨gb124, 1, none⟩ = some (.string ((rd_T120 l1 x21_1).f1)) := (blk_cell BK124.out 1).trans rfl; have hcz41_2 : w38.cell? ⟨gb124, 2, none⟩ = some (.int .i64 ((rd_T120 l1 x21_1).f2)) := (blk_cell BK124.out 2).trans rfl; have hcz41_3 : w38.cell? ⟨gb124, 3, none⟩ = some (.int .i64 ((rd_T120 l1 x21_1).f3)) := (blk_cell BK124.out 3).trans rfl; have hfz41_0 := blk_frozen BK124.out 0; have hfz41_1 := blk_frozen BK124.out 1; have hfz41_2 := blk_frozen BK124.out 2; have hfz41_3 := blk_frozen BK124.out 3))
           go_meet
           case rel => exact ⟨_, (!(Op.bytesLess x7_1.toList (((rd_T120 l1 x21_1).f0).toList))), zb14, H', ⟨by have := HK1.out; first | omega | exact Nat.le_refl _⟩, ⟨by (with_reducible repeat (first | refine blk_drewN ?_ _ | refine blk_drew ?_ | refine blk_alloc ?_ _)); exact BK124.out⟩, ⟨by repeat (first | (with_reducible first | exact HI112.out | apply IsS152.alloc | apply IsS152.drewN | apply IsS152.drew | refine IsS152.farB ?_ NB112_124.out zb22 zb25 _) | exact HI112.out)⟩, ⟨by repeat (first | (with_reducible first | exact HB.out | apply below_alloc | apply pw_below_drewN | apply below_drew1 | refine below_set ?_ (IsS152.ge HI112.out) | refine below_set ?_ GE124.out) | exact HB.out)⟩⟩
          ·replace c31 := Bool.eq_false_iff.mpr c31
           subst c31
           replace H : (manifest_Print.j1 k1 l1 (l1.length : Int) x21_1 true x113000_1 ((rd_T120 l1 x21_1).f0) ((rd_T120 l1 x21_1).f1) ((rd_T120 l1 x21_1).f2) ((rd_T120 l1 x21_1).f3)) = some (r1, r2) := by rw [if_neg (show ¬ (false = true) by decide)] at H; exact H
           have H' := Aside0.mk H
           clear H
           have hnb42 := NB124_112.out
           have hnc42 := NB112_124.out
           have hcz43_0 : w23.cell? ⟨gb124, 0, none⟩ = some (.string (⟨#[]⟩ : ByteArray)) := (blk_cell BK124.out 0).trans rfl
           have hcz43_1 : w23.cell? ⟨gb124, 1, none⟩ = some (.string (⟨#[]⟩ : ByteArray)) := (blk_cell BK124.out 1).trans rfl
           have hcz43_2 : w23.cell? ⟨gb124, 2, none⟩ = some (.int .i64 0) := (blk_cell BK124.out 2).trans rfl
           have hcz43_3 : w23.cell? ⟨gb124, 3, none⟩ = some (.int .i64 0) := (blk_cell BK124.out 3).trans rfl
           have hfz43_0 := blk_frozen BK124.out 0
           have hfz43_1 := blk_frozen BK124.out 1
           have hfz43_2 := blk_frozen BK124.out 2
           have hfz43_3 := blk_frozen BK124.out 3
           go_wp2_with (first | ((with_reducible refine gate_callee (f := 111) rfl ?_); refine goesL_ (some 27) rfl rfl Tryz.func111 zb10 rfl #[.string ((rd_T120 l1 x21_1).f0)] rfl zb3 ?_; (with_reducible refine (manifest_name.calls ((rd_T120 l1 x21_1).f0) true _ A26.out).mono ?_); rintro e w44 ⟨rfl, hb⟩; refine ⟨_, rfl, ?_⟩; have n0_ := Aside0.mk (IsS152.below (show IsS152 w ((((w23.setCell ⟨gb124, 0, none⟩ (.string ((rd_T120 l1 x21_1).f0))).setCell ⟨gb124, 1, none⟩ (.string ((rd_T120 l1 x21_1).f1))).setCell ⟨gb124, 2, none⟩ (.int .i64 ((rd_T120 l1 x21_1).f2))).setCell ⟨gb124, 3, none⟩ (.int .i64 ((rd_T120 l1 x21_1).f3))) gb112 x113000_1 from by repeat (first | (with_reducible first | exact HI112.out | apply IsS152.alloc | apply IsS152.drewN | apply IsS152.drew | refine IsS152.farB ?_ NB112_124.out zb22 zb25 _) | exact HI112.out)) hb); have n1_ := Aside0.mk (blk_below (g := gb124) (o := .cells #[.string ((rd_T120 l1 x21_1).f0), .string ((rd_T120 l1 x21_1).f1), .int .i64 ((rd_T120 l1 x21_1).f2), .int .i64 ((rd_T120 l1 x21_1).f3)] 120 (0, 0)) zb7 hb); have n2_ := Aside0.mk (below_step zb8 hb); clear HI112; clear BK124; clear HB; have HI112 := n0_; have BK124 := n1_; have HB := n2_; clear n0_ n1_ n2_; (try clear hb); (try clear hb2); (try clear hk); (try clear hi); have hcz45_0 : w44.cell? ⟨gb124, 0, none⟩ = some (.string ((rd_T120 l1 x21_1).f0)) := (blk_cell BK124.out 0).trans rfl; have hcz45_1 : w44.cell? ⟨gb124, 1, none⟩ = some (.string ((rd_T120 l1 x21_1).f1)) := (blk_cell BK124.out 1).trans rfl; have hcz45_2 : w44.cell? ⟨gb124, 2, none⟩ = some (.int .i64 ((rd_T120 l1 x21_1).f2)) := (blk_cell BK124.out 2).trans rfl; have hcz45_3 : w44.cell? ⟨gb124, 3, none⟩ = some (.int .i64 ((rd_T120 l1 x21_1).f3)) := (blk_cell BK124.out 3).trans rfl; have hfz45_0 := blk_frozen BK124.out 0; have hfz45_1 := blk_frozen BK124.out 1; have hfz45_2 := blk_frozen BK124.out 2; have hfz45_3 := blk_frozen BK124.out 3) | (go_at_call 111; (with_reducible refine (manifest_name.calls ((rd_T120 l1 x21_1).f1) true _ A28.out).mono ?_); rintro e w46 ⟨rfl, hb⟩; have n0_ := Aside0.mk (IsS152.below zb11 hb); have n1_ := Aside0.mk (blk_below (g := gb124) (o := .cells #[.string ((rd_T120 l1 x21_1).f0), .string ((rd_T120 l1 x21_1).f1), .int .i64 ((rd_T120 l1 x21_1).f2), .int .i64 ((rd_T120 l1 x21_1).f3)] 120 (0, 0)) zb24 hb); have n2_ := Aside0.mk (below_step zb8 hb); clear HI112; clear BK124; clear HB; have HI112 := n0_; have BK124 := n1_; have HB := n2_; clear n0_ n1_ n2_; (try clear hb); (try clear hb2); (try clear hk); (try clear hi); have hcz47_0 : w46.cell? ⟨gb124, 0, none⟩ = some (.string ((rd_T120 l1 x21_1).f0)) := (blk_cell BK124.out 0).trans rfl; have hcz47_1 : w46.cell? ⟨gb124, 1, none⟩ = some (.string ((rd_T120 l1 x21_1).f1)) := (blk_cell BK124.out 1).trans rfl; have hcz47_2 : w46.cell? ⟨gb124, 2, none⟩ = some (.int .i64 ((rd_T120 l1 x21_1).f2)) := (blk_cell BK124.out 2).trans rfl; have hcz47_3 : w46.cell? ⟨gb124, 3, none⟩ = some (.int .i64 ((rd_T120 l1 x21_1).f3)) := (blk_cell BK124.out 3).trans rfl; have hfz47_0 := blk_frozen BK124.out 0; have hfz47_1 := blk_frozen BK124.out 1; have hfz47_2 := blk_frozen BK124.out 2; have hfz47_3 := blk_frozen BK124.out 3) | ((with_reducible refine gate_dst (N := 40) rfl ?_); (try (refine gate_guard (by rfl) ?_; dsimp only)); refine Kd.R_lit (Kd.int .i64) _ 3 ?hg (N := 40) ?hd (xs := ([(rd_T120 l1 x21_1).f2, (rd_T120 l1 x21_1).f3] : List Int)) (inner := [.int .i64 ((rd_T120 l1 x21_1).f2), .int .i64 ((rd_T120 l1 x21_1).f3)]) (ok := fun _ => True) (okp := fun _ => True) ?hr ?hp (fun _ hk => hk) trivial (Below.refl _ _) (Nat.le_refl _) zb35 ?_; (case hd => rfl); (case hg => rfl); (case hr => first | (go_simp; done) | (go_simp; rfl)); (case hp => exact (Reps.one (show Kd.M (Kd.int .i64) _ _ _ ((rd_T120 l1 x21_1).f2) [.int .i64 ((rd_T120 l1 x21_1).f2)] from rfl) (Reps.one (show Kd.M (Kd.int .i64) _ _ _ ((rd_T120 l1 x21_1).f3) [.int .i64 ((rd_T120 l1 x21_1).f3)] from rfl) (Reps.none _ _)))); intro v128 w48 ho49 hb hg_ hnew_; clear hg_ hnew_; (first | rw [← Ny127.out] at ho49 | (simp only [Int.reduceToNat] at ho49; rw [← Ny127.out] at ho49)); have n0_ := Aside0.mk (Kd.R_lower ho49 (below_size zb8)); have n1_ := Aside0.mk (IsS152.below zb11 hb); have n2_ := Aside0.mk (blk_below (g := gb124) (o := .cells #[.string ((rd_T120 l1 x21_1).f0), .string ((rd_T120 l1 x21_1).f1), .int .i64 ((rd_T120 l1 x21_1).f2), .int .i64 ((rd_T120 l1 x21_1).f3)] 120 (0, 0)) zb24 hb); have n3_ := Aside0.mk (below_step zb8 hb); clear HI112; clear BK124; clear HB; have HO129 := n0_; have HI112 := n1_; have BK124 := n2_; have HB := n3_; clear n0_ n1_ n2_ n3_; clear hb ho49; obtain ⟨Ao50, co50, eo50⟩ := Kd.R_slice HO129.out; subst eo50) | (go_at_call 108; (with_reducible refine (manifest_near.calls k1 _ _ y127 false _ ?side1 ?side2 A30.out).mono ?_); (case side1 => repeat (first | exact (Kd.R_reads' HO129.out).2.2 | (with_reducible refine Kd.C_alloc ?_ _) | (with_reducible refine Kd.C_drewN ?_ _) | (with_reducible refine Kd.C_drew ?_))); (case side2 => exact (Kd.R_reads' HO129.out).2.1); rintro e w' ⟨rfl, ⟨nd, rfl⟩⟩))
           go_meet
           case rel => exact ⟨_, (true), zb14, H', ⟨by have := HK1.out; first | omega | exact Nat.le_refl _⟩, ⟨by (with_reducible repeat (first | refine blk_drewN ?_ _ | refine blk_drew ?_ | refine blk_alloc ?_ _)); exact BK124.out⟩, ⟨by repeat (first | (with_reducible first | exact HI112.out | apply IsS152.alloc | apply IsS152.drewN | apply IsS152.drew | refine IsS152.farB ?_ NB112_124.out zb22 zb25 _) | exact HI112.out)⟩, ⟨by repeat (first | (with_reducible first | exact HB.out | apply below_alloc | apply pw_below_drewN | apply below_drew1 | refine below_set ?_ (IsS152.ge HI112.out) | refine below_set ?_ GE124.out) | exact HB.out)⟩⟩
         ·replace c29 := Bool.eq_false_iff.mpr c29
          subst c29
          replace H : (manifest_Print.j1 k1 l1 (l1.length : Int) x21_1 true x113000_1 ((rd_T120 l1 x21_1).f0) ((rd_T120 l1 x21_1).f1) ((rd_T120 l1 x21_1).f2) ((rd_T120 l1 x21_1).f3)) = some (r1, r2) := by rw [if_neg (show ¬ (false = true) by decide)] at H; exact H
          have H' := Aside0.mk H
          clear H
          have hnb51 := NB124_112.out
          have hnc51 := NB112_124.out
          have hcz52_0 : w23.cell? ⟨gb124, 0, none⟩ = some (.string (⟨#[]⟩ : ByteArray)) := (blk_cell BK124.out 0).trans rfl
          have hcz52_1 : w23.cell? ⟨gb124, 1, none⟩ = some (.string (⟨#[]⟩ : ByteArray)) := (blk_cell BK124.out 1).trans rfl
          have hcz52_2 : w23.cell? ⟨gb124, 2, none⟩ = some (.int .i64 0) := (blk_cell BK124.out 2).trans rfl
          have hcz52_3 : w23.cell? ⟨gb124, 3, none⟩ = some (.int .i64 0) := (blk_cell BK124.out 3).trans rfl
          have hfz52_0 := blk_frozen BK124.out 0
          have hfz52_1 := blk_frozen BK124.out 1
          have hfz52_2 := blk_frozen BK124.out 2
          have hfz52_3 := blk_frozen BK124.out 3
          go_wp2_with (first | ((with_reducible refine gate_callee (f := 111) rfl ?_); refine goesL_ (some 27) rfl rfl Tryz.func111 zb10 rfl #[.string ((rd_T120 l1 x21_1).f0)] rfl zb3 ?_; (with_reducible refine (manifest_name.calls ((rd_T120 l1 x21_1).f0) true _ A26.out).mono ?_); rintro e w53 ⟨rfl, hb⟩; refine ⟨_, rfl, ?_⟩; have n0_ := Aside0.mk (IsS152.below (show IsS152 w ((((w23.setCell ⟨gb124, 0, none⟩ (.string ((rd_T120 l1 x21_1).f0))).setCell ⟨gb124, 1, none⟩ (.string ((rd_T120 l1 x21_1).f1))).setCell ⟨gb124, 2, none⟩ (.int .i64 ((rd_T120 l1 x21_1).f2))).setCell ⟨gb124, 3, none⟩ (.int .i64 ((rd_T120 l1 x21_1).f3))) gb112 x113000_1 from by repeat (first | (with_reducible first | exact HI112.out | apply IsS152.alloc | apply IsS152.drewN | apply IsS152.drew | refine IsS152.farB ?_ NB112_124.out zb22 zb25 _) | exact HI112.out)) hb); have n1_ := Aside0.mk (blk_below (g := gb124) (o := .cells #[.string ((rd_T120 l1 x21_1).f0), .string ((rd_T120 l1 x21_1).f1), .int .i64 ((rd_T120 l1 x21_1).f2), .int .i64 ((rd_T120 l1 x21_1).f3)] 120 (0, 0)) zb7 hb); have n2_ := Aside0.mk (below_step zb8 hb); clear HI112; clear BK124; clear HB; have HI112 := n0_; have BK124 := n1_; have HB := n2_; clear n0_ n1_ n2_; (try clear hb); (try clear hb2); (try clear hk); (try clear hi); have hcz54_0 : w53.cell? ⟨gb124, 0, none⟩ = some (.string ((rd_T120 l1 x21_1).f0)) := (blk_cell BK124.out 0).trans rfl; have hcz54_1 : w53.cell? ⟨gb124, 1, none⟩ = some (.string ((rd_T120 l1 x21_1).f1)) := (blk_cell BK124.out 1).trans rfl; have hcz54_2 : w53.cell? ⟨gb124, 2, none⟩ = some (.int .i64 ((rd_T120 l1 x21_1).f2)) := (blk_cell BK124.out 2).trans rfl; have hcz54_3 : w53.cell? ⟨gb124, 3, none⟩ = some (.int .i64 ((rd_T120 l1 x21_1).f3)) := (blk_cell BK124.out 3).trans rfl; have hfz54_0 := blk_frozen BK124.out 0; have hfz54_1 := blk_frozen BK124.out 1; have hfz54_2 := blk_frozen BK124.out 2; have hfz54_3 := blk_frozen BK124.out 3) | (go_at_call 111; (with_reducible refine (manifest_name.calls ((rd_T120 l1 x21_1).f1) false _ A28.out).mono ?_); rintro e w55 ⟨rfl, hb⟩; have n0_ := Aside0.mk (IsS152.below zb11 hb); have n1_ := Aside0.mk (blk_below (g := gb124) (o := .cells #[.string ((rd_T120 l1 x21_1).f0), .string ((rd_T120 l1 x21_1).f1), .int .i64 ((rd_T120 l1 x21_1).f2), .int .i64 ((rd_T120 l1 x21_1).f3)] 120 (0, 0)) zb24 hb); have n2_ := Aside0.mk (below_step zb8 hb); clear HI112; clear BK124; clear HB; have HI112 := n0_; have BK124 := n1_; have HB := n2_; clear n0_ n1_ n2_; (try clear hb); (try clear hb2); (try clear hk); (try clear hi)))
          go_meet
          case rel => exact ⟨_, (true), zb14, H', ⟨by have := HK1.out; first | omega | exact Nat.le_refl _⟩, ⟨by (with_reducible repeat (first | refine blk_drewN ?_ _ | refine blk_drew ?_ | refine blk_alloc ?_ _)); exact BK124.out⟩, ⟨by repeat (first | (with_reducible first | exact HI112.out | apply IsS152.alloc | apply IsS152.drewN | apply IsS152.drew | refine IsS152.farB ?_ NB112_124.out zb22 zb25 _) | exact HI112.out)⟩, ⟨by repeat (first | (with_reducible first | exact HB.out | apply below_alloc | apply pw_below_drewN | apply below_drew1 | refine below_set ?_ (IsS152.ge HI112.out) | refine below_set ?_ GE124.out) | exact HB.out)⟩⟩
        ·replace c27 := Bool.eq_false_iff.mpr c27
         subst c27
         replace H : (manifest_Print.j1 k1 l1 (l1.length : Int) x21_1 true x113000_1 ((rd_T120 l1 x21_1).f0) ((rd_T120 l1 x21_1).f1) ((rd_T120 l1 x21_1).f2) ((rd_T120 l1 x21_1).f3)) = some (r1, r2) := by rw [if_neg (show ¬ (false = true) by decide)] at H; exact H
         have H' := Aside0.mk H
         clear H
         have hnb56 := NB124_112.out
         have hnc56 := NB112_124.out
         have hcz57_0 : w23.cell? ⟨gb124, 0, none⟩ = some (.string (⟨#[]⟩ : ByteArray)) := (blk_cell BK124.out 0).trans rfl
         have hcz57_1 : w23.cell? ⟨gb124, 1, none⟩ = some (.string (⟨#[]⟩ : ByteArray)) := (blk_cell BK124.out 1).trans rfl
         have hcz57_2 : w23.cell? ⟨gb124, 2, none⟩ = some (.int .i64 0) := (blk_cell BK124.out 2).trans rfl
         have hcz57_3 : w23.cell? ⟨gb124, 3, none⟩ = some (.int .i64 0) := (blk_cell BK124.out 3).trans rfl
         have hfz57_0 := blk_frozen BK124.out 0
         have hfz57_1 := blk_frozen BK124.out 1
         have hfz57_2 := blk_frozen BK124.out 2
         have hfz57_3 := blk_frozen BK124.out 3
         go_wp2_with (first | ((with_reducible refine gate_callee (f := 111) rfl ?_); refine goesL_ (some 27) rfl rfl Tryz.func111 zb10 rfl #[.string ((rd_T120 l1 x21_1).f0)] rfl zb3 ?_; (with_reducible refine (manifest_name.calls ((rd_T120 l1 x21_1).f0) false _ A26.out).mono ?_); rintro e w58 ⟨rfl, hb⟩; refine ⟨_, rfl, ?_⟩; have n0_ := Aside0.mk (IsS152.below (show IsS152 w ((((w23.setCell ⟨gb124, 0, none⟩ (.string ((rd_T120 l1 x21_1).f0))).setCell ⟨gb124, 1, none⟩ (.string ((rd_T120 l1 x21_1).f1))).setCell ⟨gb124, 2, none⟩ (.int .i64 ((rd_T120 l1 x21_1).f2))).setCell ⟨gb124, 3, none⟩ (.int .i64 ((rd_T120 l1 x21_1).f3))) gb112 x113000_1 from by repeat (first | (with_reducible first | exact HI112.out | apply IsS152.alloc | apply IsS152.drewN | apply IsS152.drew | refine IsS152.farB ?_ NB112_124.out zb22 zb25 _) | exact HI112.out)) hb); have n1_ := Aside0.mk (blk_below (g := gb124) (o := .cells #[.string ((rd_T120 l1 x21_1).f0), .string ((rd_T120 l1 x21_1).f1), .int .i64 ((rd_T120 l1 x21_1).f2), .int .i64 ((rd_T120 l1 x21_1).f3)] 120 (0, 0)) zb7 hb); have n2_ := Aside0.mk (below_step zb8 hb); clear HI112; clear BK124; clear HB; have HI112 := n0_; have BK124 := n1_; have HB := n2_; clear n0_ n1_ n2_; (try clear hb); (try clear hb2); (try clear hk); (try clear hi)))
         go_meet
         case rel => exact ⟨_, (true), zb14, H', ⟨by have := HK1.out; first | omega | exact Nat.le_refl _⟩, ⟨by (with_reducible repeat (first | refine blk_drewN ?_ _ | refine blk_drew ?_ | refine blk_alloc ?_ _)); exact BK124.out⟩, ⟨by repeat (first | (with_reducible first | exact HI112.out | apply IsS152.alloc | apply IsS152.drewN | apply IsS152.drew | refine IsS152.farB ?_ NB112_124.out zb22 zb25 _) | exact HI112.out)⟩, ⟨by repeat (first | (with_reducible first | exact HB.out | apply below_alloc | apply pw_below_drewN | apply below_drew1 | refine below_set ?_ (IsS152.ge HI112.out) | refine below_set ?_ GE124.out) | exact HB.out)⟩⟩
       case rest =>
        clear HC22
        try clear c1
        try clear p1
        try clear q1
        try clear hx1
        try clear c2
        try clear p2
        try clear c3
        try clear c4
        try clear c5
        try clear c6
        try clear c10
        try clear c11
        try clear p12
        try clear q12
        try clear hx12
        try clear c19
        try clear c19b0
        try clear c20
        try clear c20b0
        try clear c21
        try clear c21b0
        try clear c24
        try clear c27
        try clear c29
        try clear c31
        try clear c32
        try clear c42
        try clear c51
        try clear c56
        try clear hcz25_0
        try clear hcz25_1
        try clear hcz25_2
        try clear hcz25_3
        try clear hcz33_0
        try clear hcz33_1
        try clear hcz33_2
        try clear hcz33_3
        try clear hcz35_0
        try clear hcz35_1
        try clear hcz35_2
        try clear hcz35_3
        try clear hcz37_0
        try clear hcz37_1
        try clear hcz37_2
        try clear hcz37_3
        try clear hcz41_0
        try clear hcz41_1
        try clear hcz41_2
        try clear hcz41_3
        try clear hcz43_0
        try clear hcz43_1
        try clear hcz43_2
        try clear hcz43_3
        try clear hcz45_0
        try clear hcz45_1
        try clear hcz45_2
        try clear hcz45_3
        try clear hcz47_0
        try clear hcz47_1
        try clear hcz47_2
        try clear hcz47_3
        try clear hcz52_0
        try clear hcz52_1
        try clear hcz52_2
        try clear hcz52_3
        try clear hcz54_0
        try clear hcz54_1
        try clear hcz54_2
        try clear hcz54_3
        try clear hcz57_0
        try clear hcz57_1
        try clear hcz57_2
        try clear hcz57_3
        try clear hfz25_0
        try clear hfz25_1
        try clear hfz25_2
        try clear hfz25_3
        try clear hfz33_0
        try clear hfz33_1
        try clear hfz33_2
        try clear hfz33_3
        try clear hfz35_0
        try clear hfz35_1
        try clear hfz35_2
        try clear hfz35_3
        try clear hfz37_0
        try clear hfz37_1
        try clear hfz37_2
        try clear hfz37_3
        try clear hfz41_0
        try clear hfz41_1
        try clear hfz41_2
        try clear hfz41_3
        try clear hfz43_0
        try clear hfz43_1
        try clear hfz43_2
        try clear hfz43_3
        try clear hfz45_0
        try clear hfz45_1
        try clear hfz45_2
        try clear hfz45_3
        try clear hfz47_0
        try clear hfz47_1
        try clear hfz47_2
        try clear hfz47_3
        try clear hfz52_0
        try clear hfz52_1
        try clear hfz52_2
        try clear hfz52_3
        try clear hfz54_0
        try clear hfz54_1
        try clear hfz54_2
        try clear hfz54_3
        try clear hfz57_0
        try clear hfz57_1
        try clear hfz57_2
        try clear hfz57_3
        try clear hx123_0
        try clear hx123_1
        try clear hx123_2
        try clear hx123_3
        try clear p123
        try clear p2
        try clear q123
        obtain ⟨kq, x49_21, rfl, HA, HJ21, BK124, HI112, HB⟩ := hcut
        cases kq with
        | zero => exact absurd HA.out (by simp [manifest_Print.j1])
        | succ kj21 =>
         have H := HA.out
         clear HA
         simp only [manifest_Print.j1] at H
         by_cases c59 : x49_21 = true
         ·subst c59
          replace H : (some ((⟨#[]⟩ : ByteArray), 30)) = some (r1, r2) := by rw [if_pos rfl] at H; exact H
          simp only [Option.some.injEq, Prod.mk.injEq] at H
          obtain ⟨rfl, rfl⟩ := H
          go_wp2
          go_ret2
          exact ⟨zb15, zb8⟩
         ·replace c59 := Bool.eq_false_iff.mpr c59
          subst c59
          replace H : ((manifest_line.f kj21 (([((rd_T120 l1 x21_1).f0), ((rd_T120 l1 x21_1).f1)] : List ByteArray)) (([((rd_T120 l1 x21_1).f2), ((rd_T120 l1 x21_1).f3)] : List Int))).bind fun t137 => ((Builder_WriteString.f x113000_1 t137).bind fun bt138 => (manifest_Print.l0 kj21 ((rd_T120 l1 x21_1).f0) l1 (l1.length : Int) (wrap64 (x21_1 + 1)) bt138.2.2))) = some (r1, r2) := by rw [if_neg (show ¬ (false = true) by decide)] at H; exact H
          obtain ⟨y131, hy131⟩ : ∃ y_ : List ByteArray, y_ = (([((rd_T120 l1 x21_1).f0), ((rd_T120 l1 x21_1).f1)] : List ByteArray)) := ⟨_, rfl⟩
          replace H : ((manifest_line.f kj21 y131 (([((rd_T120 l1 x21_1).f2), ((rd_T120 l1 x21_1).f3)] : List Int))).bind fun t137 => ((Builder_WriteString.f x113000_1 t137).bind fun bt138 => (manifest_Print.l0 kj21 ((rd_T120 l1 x21_1).f0) l1 (l1.length : Int) (wrap64 (x21_1 + 1)) bt138.2.2))) = some (r1, r2) := by first | (rw [hy131]; with_reducible exact H) | (have H2_ := (Option.bind_some _ _).symm.trans H; rw [hy131]; with_reducible exact H2_) | (have H2_ := (Option.bind_some _ _).symm.trans H; with_reducible exact H2_) | with_reducible exact H | (rw [hy131]; exact H) | exact H
          have Ny131 := Aside0.mk hy131
          clear hy131
          obtain ⟨y134, hy134⟩ : ∃ y_ : List Int, y_ = (([((rd_T120 l1 x21_1).f2), ((rd_T120 l1 x21_1).f3)] : List Int)) := ⟨_, rfl⟩
          replace H : ((manifest_line.f kj21 y131 y134).bind fun t137 => ((Builder_WriteString.f x113000_1 t137).bind fun bt138 => (manifest_Print.l0 kj21 ((rd_T120 l1 x21_1).f0) l1 (l1.length : Int) (wrap64 (x21_1 + 1)) bt138.2.2))) = some (r1, r2) := by first | (rw [hy134]; with_reducible exact H) | (have H2_ := (Option.bind_some _ _).symm.trans H; rw [hy134]; with_reducible exact H2_) | (have H2_ := (Option.bind_some _ _).symm.trans H; with_reducible exact H2_) | with_reducible exact H | (rw [hy134]; exact H) | exact H
          have Ny134 := Aside0.mk hy134
          clear hy134
          replace H := Option.bind_eq_some_iff.mp H
          obtain ⟨t137, A600, H⟩ := H
          replace H : ((Builder_WriteString.f x113000_1 t137).bind fun bt138 => (manifest_Print.l0 kj21 ((rd_T120 l1 x21_1).f0) l1 (l1.length : Int) (wrap64 (x21_1 + 1)) bt138.2.2)) = some (r1, r2) := H
          have A60 := Aside0.mk A600
          clear A600
          replace H := Option.bind_eq_some_iff.mp H
          obtain ⟨⟨t138, t139, t140⟩, A610, H⟩ := H
          replace H : (manifest_Print.l0 kj21 ((rd_T120 l1 x21_1).f0) l1 (l1.length : Int) (wrap64 (x21_1 + 1)) t140) = some (r1, r2) := H
          have A61 := Aside0.mk A610
          clear A610
          have H' := Aside0.mk H
          clear H
          have hnb62 := NB124_112.out
          have hnc62 := NB112_124.out
          have hcz63_0 : wc.cell? ⟨gb124, 0, none⟩ = some (.string ((rd_T120 l1 x21_1).f0)) := (blk_cell BK124.out 0).trans rfl
          have hcz63_1 : wc.cell? ⟨gb124, 1, none⟩ = some (.string ((rd_T120 l1 x21_1).f1)) := (blk_cell BK124.out 1).trans rfl
          have hcz63_2 : wc.cell? ⟨gb124, 2, none⟩ = some (.int .i64 ((rd_T120 l1 x21_1).f2)) := (blk_cell BK124.out 2).trans rfl
          have hcz63_3 : wc.cell? ⟨gb124, 3, none⟩ = some (.int .i64 ((rd_T120 l1 x21_1).f3)) := (blk_cell BK124.out 3).trans rfl
          have hfz63_0 := blk_frozen BK124.out 0
          have hfz63_1 := blk_frozen BK124.out 1
          have hfz63_2 := blk_frozen BK124.out 2
          have hfz63_3 := blk_frozen BK124.out 3
          go_wp2_with (first | ((with_reducible refine gate_dst (N := 56) rfl ?_); (try (refine gate_guard (by rfl) ?_; dsimp only)); refine Kd.R_lit Kd.string _ 9 ?hg (N := 56) ?hd (xs := ([((rd_T120 l1 x21_1).f0), ((rd_T120 l1 x21_1).f1)] : List ByteArray)) (inner := [.string ((rd_T120 l1 x21_1).f0), .string ((rd_T120 l1 x21_1).f1)]) (ok := fun _ => True) (okp := fun _ => True) ?hr ?hp (fun _ hk => hk) trivial (Below.refl _ _) (Nat.le_refl _) zb35 ?_; (case hd => rfl); (case hg => rfl); (case hr => first | (go_simp; done) | (go_simp; rfl)); (case hp => exact (Reps.one (show Kd.M Kd.string _ _ _ ((rd_T120 l1 x21_1).f0) [.string ((rd_T120 l1 x21_1).f0)] from rfl) (Reps.one (show Kd.M Kd.string _ _ _ ((rd_T120 l1 x21_1).f1) [.string ((rd_T120 l1 x21_1).f1)] from rfl) (Reps.none _ _)))); intro v132 w64 ho65 hb hg_ hnew_; clear hg_ hnew_; (first | rw [← Ny131.out] at ho65 | (simp only [Int.reduceToNat] at ho65; rw [← Ny131.out] at ho65)); have n0_ := Aside0.mk (Kd.R_lower ho65 (below_size zb8)); have n1_ := Aside0.mk (blk_below (g := gb124) (o := .cells #[.string ((rd_T120 l1 x21_1).f0), .string ((rd_T120 l1 x21_1).f1), .int .i64 ((rd_T120 l1 x21_1).f2), .int .i64 ((rd_T120 l1 x21_1).f3)] 120 (0, 0)) zb24 hb); have n2_ := Aside0.mk (IsS152.below zb11 hb); have n3_ := Aside0.mk (below_step zb8 hb); clear BK124; clear HI112; clear HB; have HO133 := n0_; have BK124 := n1_; have HI112 := n2_; have HB := n3_; clear n0_ n1_ n2_ n3_; clear hb ho65; have hcz66_0 : w64.cell? ⟨gb124, 0, none⟩ = some (.string ((rd_T120 l1 x21_1).f0)) := (blk_cell BK124.out 0).trans rfl; have hcz66_1 : w64.cell? ⟨gb124, 1, none⟩ = some (.string ((rd_T120 l1 x21_1).f1)) := (blk_cell BK124.out 1).trans rfl; have hcz66_2 : w64.cell? ⟨gb124, 2, none⟩ = some (.int .i64 ((rd_T120 l1 x21_1).f2)) := (blk_cell BK124.out 2).trans rfl; have hcz66_3 : w64.cell? ⟨gb124, 3, none⟩ = some (.int .i64 ((rd_T120 l1 x21_1).f3)) := (blk_cell BK124.out 3).trans rfl; have hfz66_0 := blk_frozen BK124.out 0; have hfz66_1 := blk_frozen BK124.out 1; have hfz66_2 := blk_frozen BK124.out 2; have hfz66_3 := blk_frozen BK124.out 3) | ((with_reducible refine gate_dst (N := 61) rfl ?_); (try (refine gate_guard (by rfl) ?_; dsimp only)); refine Kd.R_lit (Kd.int .i64) _ 3 ?hg (N := 61) ?hd (xs := ([((rd_T120 l1 x21_1).f2), ((rd_T120 l1 x21_1).f3)] : List Int)) (inner := [.int .i64 ((rd_T120 l1 x21_1).f2), .int .i64 ((rd_T120 l1 x21_1).f3)]) (ok := fun _ => True) (okp := fun _ => True) ?hr ?hp (fun _ hk => hk) trivial (Below.refl _ _) (Nat.le_refl _) zb35 ?_; (case hd => rfl); (case hg => rfl); (case hr => first | (go_simp; done) | (go_simp; rfl)); (case hp => exact (Reps.one (show Kd.M (Kd.int .i64) _ _ _ ((rd_T120 l1 x21_1).f2) [.int .i64 ((rd_T120 l1 x21_1).f2)] from rfl) (Reps.one (show Kd.M (Kd.int .i64) _ _ _ ((rd_T120 l1 x21_1).f3) [.int .i64 ((rd_T120 l1 x21_1).f3)] from rfl) (Reps.none _ _)))); intro v135 w67 ho68 hb hg_ hnew_; clear hg_ hnew_; (first | rw [← Ny134.out] at ho68 | (simp only [Int.reduceToNat] at ho68; rw [← Ny134.out] at ho68)); have n0_ := Aside0.mk (Kd.R_below (by (with_reducible repeat (first | apply Kd.R_alloc | apply Kd.R_drewN | apply Kd.R_drew)); exact HO133.out) hb); have n1_ := Aside0.mk (Kd.R_lower ho68 (below_size zb8)); have n2_ := Aside0.mk (blk_below (g := gb124) (o := .cells #[.string ((rd_T120 l1 x21_1).f0), .string ((rd_T120 l1 x21_1).f1), .int .i64 ((rd_T120 l1 x21_1).f2), .int .i64 ((rd_T120 l1 x21_1).f3)] 120 (0, 0)) zb24 hb); have n3_ := Aside0.mk (IsS152.below zb11 hb); have n4_ := Aside0.mk (below_step zb8 hb); clear HO133; clear BK124; clear HI112; clear HB; have HO133 := n0_; have HO136 := n1_; have BK124 := n2_; have HI112 := n3_; have HB := n4_; clear n0_ n1_ n2_ n3_ n4_; clear hb ho68; obtain ⟨Ao69, co69, eo69⟩ := Kd.R_slice HO133.out; subst eo69; obtain ⟨Ao70, co70, eo70⟩ := Kd.R_slice HO136.out; subst eo70) | ((with_reducible refine gate_callee (f := 110) rfl ?_); refine goesL_ (some 62) rfl rfl Tryz.func110 zb10 rfl #[.slice Ao69 y131.length co69, .slice Ao70 y134.length co70] rfl zb3 ?_; (with_reducible refine (manifest_line.calls kj21 (fun k_ => some k_ = (.slice Ao69 y131.length co69 : Value).ownBlock) (.slice Ao69 y131.length co69) y131 _ _ y134 t137 w _ ?side1 ?side2 ?side3 ?side4 ?side5 A60.out).mono ?_); (case side1 => repeat (first | (with_reducible first | exact HB.out | apply below_alloc | apply pw_below_drewN | apply below_drew1 | refine below_set ?_ (IsS152.ge HI112.out) | refine below_set ?_ GE124.out) | exact HB.out)); (case side2 => exact Kd.R_tight rfl HO133.out); (case side3 => exact Kd.C_kept_own ((Kd.R_apart' HO136.out (Kd.R_typed HO133.out) zb25)) (fun k_ hk_ hs_ => (hk_.2) hs_)); (case side4 => exact (Kd.R_reads' HO136.out).2.1); (case side5 => exact hGA.out); rintro e w71 ⟨rfl, hb, hkp⟩; refine ⟨_, rfl, ?_⟩; have n0_ := Aside0.mk (blk_kept zb24 hkp (fun hs_ => (fun e_ => (Kd.R_ne HO133.out BK124.out zb25) e_) hs_)); have n1_ := Aside0.mk (IsS152.kept zb11 hkp (fun k_ hs_ => (fun e_ => IsS152.own_far HI112.out HO133.out zb25 k_ e_.symm) hs_)); have n2_ := Aside0.mk (Kd.R_mono (ok' := fun k_ => True) (Kd.R_keptB ((Kd.R_apart' HO136.out (Kd.R_typed HO133.out) zb25)) hkp (fun k_ hk_ hs_ => (hk_.2) hs_)) (fun k_ hk_ => trivial)); have n3_ := Aside0.mk (hb); clear BK124; clear HI112; clear HO136; clear HB; clear HO133; have BK124 := n0_; have HI112 := n1_; have HO136 := n2_; have HB := n3_; clear n0_ n1_ n2_ n3_; (try clear hb); (try clear hkp)) | ((with_reducible refine gate_callee (f := 109) rfl ?_); refine goesL_ (some 63) rfl rfl Tryz.func109 zb10 rfl #[.pointer (some ⟨gb112, 0, none⟩), .string t137] rfl zb3 ?_; (with_reducible refine (Builder_WriteString.calls gb112 x113000_1 t137 t138 t139 t140 w _ ?side1 ?side2 A61.out).mono ?_); (case side1 => repeat (first | (with_reducible first | exact HI112.out | apply IsS152.alloc | apply IsS152.drewN | apply IsS152.drew | refine IsS152.farB ?_ NB112_124.out zb22 zb25 _) | exact HI112.out)); (case side2 => repeat (first | (with_reducible first | exact HB.out | apply below_alloc | apply pw_below_drewN | apply below_drew1 | refine below_set ?_ (IsS152.ge HI112.out) | refine below_set ?_ GE124.out) | exact HB.out)); rintro e w72 ⟨rfl, hi, hb, hk⟩; refine ⟨_, rfl, ?_⟩; have n0_ := Aside0.mk (blk_keepO hk (g := gb124) (o := .cells #[.string ((rd_T120 l1 x21_1).f0), .string ((rd_T120 l1 x21_1).f1), .int .i64 ((rd_T120 l1 x21_1).f2), .int .i64 ((rd_T120 l1 x21_1).f3)] 120 (0, 0)) zb24 rfl zb25 NB124_112.out); have n1_ := Aside0.mk (Kd.R_mono (R_keepB (IsS152.apart (show IsS152 w _ gb112 x113000_1 from by repeat (first | (with_reducible first | exact HI112.out | apply IsS152.alloc | apply IsS152.drewN | apply IsS152.drew | refine IsS152.farB ?_ NB112_124.out zb22 zb25 _) | exact HI112.out)) (by (with_reducible repeat (first | apply Kd.R_alloc | apply Kd.R_drewN | apply Kd.R_drew)); exact HO136.out) zb25) hk zb25) (fun _ h => h.1)); have n2_ := Aside0.mk (hb); have n3_ := Aside0.mk (hi); clear BK124; clear HO136; clear HB; clear HI112; have BK124 := n0_; have HO136 := n1_; have HB := n2_; have HI112 := n3_; clear n0_ n1_ n2_ n3_; (try clear hb); (try clear hk); (try clear hi); (try simp only [errW_none, errW_some])))
          go_roundg kj21
          case measure => have := HK1.out; have := HJ21.out; omega
          case rel => exact ⟨(((rd_T120 l1 x21_1).f0)), (wrap64 (x21_1 + 1)), (t140), zb14, zb14, H', ⟨by have := HK1.out; have := HJ21.out; omega⟩, ⟨by repeat (first | (with_reducible first | exact HI112.out | apply IsS152.alloc | apply IsS152.drewN | apply IsS152.drew | refine IsS152.farB ?_ NB112_124.out zb22 zb25 _) | exact HI112.out)⟩, ⟨by repeat (first | (with_reducible first | exact HB.out | apply below_alloc | apply pw_below_drewN | apply below_drew1 | refine below_set ?_ (IsS152.ge HI112.out) | refine below_set ?_ GE124.out) | exact HB.out)⟩⟩
      ·rw [if_neg c21] at H
       exact absurd H zb35
     ·rw [if_neg c20] at H
      exact absurd H zb35
    ·rw [if_neg c19] at H
     have c19b0 : decide (x21_1 < (l1.length : Int)) = false := decide_eq_false c19
     clear c19
     replace H := Option.bind_eq_some_iff.mp H
     obtain ⟨⟨t141, t142⟩, A730, H⟩ := H
     replace H : ((Builder_String.f t142).bind fun bt146 => ((adler_Sum.f bt146.1).bind fun t148 => ((manifest_line.f k1 (([(⟨#[115, 117, 109]⟩ : ByteArray)] : List ByteArray)) (([t148] : List Int))).bind fun t152 => (if t141.size + t152.size ≤ 9223372036854775807 then (some (t141 ++ t152, 0)) else (none))))) = some (r1, r2) := H
     have A73 := Aside0.mk A730
     clear A730
     obtain ⟨y143, hy143⟩ : ∃ y_ : List ByteArray, y_ = (([(⟨#[115, 117, 109]⟩ : ByteArray)] : List ByteArray)) := ⟨_, rfl⟩
     replace H : ((Builder_String.f t142).bind fun bt146 => ((adler_Sum.f bt146.1).bind fun t148 => ((manifest_line.f k1 y143 (([t148] : List Int))).bind fun t152 => (if t141.size + t152.size ≤ 9223372036854775807 then (some (t141 ++ t152, 0)) else (none))))) = some (r1, r2) := by first | (rw [hy143]; with_reducible exact H) | (have H2_ := (Option.bind_some _ _).symm.trans H; rw [hy143]; with_reducible exact H2_) | (have H2_ := (Option.bind_some _ _).symm.trans H; with_reducible exact H2_) | with_reducible exact H | (rw [hy143]; exact H) | exact H
     have Ny143 := Aside0.mk hy143
     clear hy143
     replace H := Option.bind_eq_some_iff.mp H
     obtain ⟨⟨t146, t147⟩, A740, H⟩ := H
     replace H : ((adler_Sum.f t146).bind fun t148 => ((manifest_line.f k1 y143 (([t148] : List Int))).bind fun t152 => (if t141.size + t152.size ≤ 9223372036854775807 then (some (t141 ++ t152, 0)) else (none)))) = some (r1, r2) := H
     have A74 := Aside0.mk A740
     clear A740
     replace H := Option.bind_eq_some_iff.mp H
     obtain ⟨t148, A750, H⟩ := H
     replace H : ((manifest_line.f k1 y143 (([t148] : List Int))).bind fun t152 => (if t141.size + t152.size ≤ 9223372036854775807 then (some (t141 ++ t152, 0)) else (none))) = some (r1, r2) := H
     have A75 := Aside0.mk A750
     clear A750
     obtain ⟨y149, hy149⟩ : ∃ y_ : List Int, y_ = (([t148] : List Int)) := ⟨_, rfl⟩
     replace H : ((manifest_line.f k1 y143 y149).bind fun t152 => (if t141.size + t152.size ≤ 9223372036854775807 then (some (t141 ++ t152, 0)) else (none))) = some (r1, r2) := by first | (rw [hy149]; with_reducible exact H) | (have H2_ := (Option.bind_some _ _).symm.trans H; rw [hy149]; with_reducible exact H2_) | (have H2_ := (Option.bind_some _ _).symm.trans H; with_reducible exact H2_) | with_reducible exact H | (rw [hy149]; exact H) | exact H
     have Ny149 := Aside0.mk hy149
     clear hy149
     replace H := Option.bind_eq_some_iff.mp H
     obtain ⟨t152, A760, H⟩ := H
     replace H : (if t141.size + t152.size ≤ 9223372036854775807 then (some (t141 ++ t152, 0)) else (none)) = some (r1, r2) := H
     have A76 := Aside0.mk A760
     clear A760
     by_cases c77 : t141.size + t152.size ≤ 9223372036854775807
     ·rw [if_pos c77] at H
      have c77b0 := eq_true c77
      have c77b1 : decide (t141.size + t152.size ≤ 9223372036854775807) = true := decide_eq_true c77
      try have c77b2 : (9223372036854775807 < t141.size + t152.size) = False := eq_false (Nat.not_lt.2 c77)
      simp only [Option.some.injEq, Prod.mk.injEq] at H
      obtain ⟨rfl, rfl⟩ := H
      go_wp2_with (first | ((with_reducible refine gate_callee (f := 112) rfl ?_); refine goesL_ (some 65) rfl rfl Tryz.func112 zb10 rfl #[.pointer (some ⟨gb112, 0, none⟩)] rfl zb3 ?_; (with_reducible refine (Builder_String.calls gb112 x113000_1 t141 t142 w _ ?side1 ?side2 A73.out).mono ?_); (case side1 => repeat (first | (with_reducible first | exact HI112.out | apply IsS152.alloc | apply IsS152.drewN | apply IsS152.drew) | exact HI112.out)); (case side2 => repeat (first | (with_reducible first | exact HB.out | apply below_alloc | apply pw_below_drewN | apply below_drew1 | refine below_set ?_ (IsS152.ge HI112.out)) | exact HB.out)); rintro e w78 ⟨rfl, hi, hb, hk⟩; refine ⟨_, rfl, ?_⟩; have n0_ := Aside0.mk (hb); have n1_ := Aside0.mk (hi); clear HB; clear HI112; have HB := n0_; have HI112 := n1_; clear n0_ n1_; (try clear hb); (try clear hk); (try clear hi)) | ((with_reducible refine gate_dst (N := 66) rfl ?_); (try (refine gate_guard (by rfl) ?_; dsimp only)); refine Kd.R_lit Kd.string _ 9 ?hg (N := 66) ?hd (xs := ([(⟨#[115, 117, 109]⟩ : ByteArray)] : List ByteArray)) (inner := [.string (⟨#[115, 117, 109]⟩ : ByteArray)]) (ok := fun _ => True) (okp := fun _ => True) ?hr ?hp (fun _ hk => hk) trivial (Below.refl _ _) (Nat.le_refl _) zb35 ?_; (case hd => rfl); (case hg => rfl); (case hr => first | (go_simp; done) | (go_simp; rfl)); (case hp => exact (Reps.one (show Kd.M Kd.string _ _ _ (⟨#[115, 117, 109]⟩ : ByteArray) [.string (⟨#[115, 117, 109]⟩ : ByteArray)] from rfl) (Reps.none _ _))); intro v144 w79 ho80 hb hg_ hnew_; clear hg_ hnew_; (first | rw [← Ny143.out] at ho80 | (simp only [Int.reduceToNat] at ho80; rw [← Ny143.out] at ho80)); have n0_ := Aside0.mk (Kd.R_lower ho80 (below_size zb12)); have n1_ := Aside0.mk (IsS152.below zb23 hb); have n2_ := Aside0.mk (below_step zb12 hb); clear HI112; clear HB; have HO145 := n0_; have HI112 := n1_; have HB := n2_; clear n0_ n1_ n2_; clear hb ho80) | ((with_reducible refine gate_callee (f := 112) rfl ?_); refine goesL_ (some 67) rfl rfl Tryz.func112 zb10 rfl #[.pointer (some ⟨gb112, 0, none⟩)] rfl zb3 ?_; (with_reducible refine (Builder_String.calls gb112 t142 t146 t147 w _ ?side1 ?side2 A74.out).mono ?_); (case side1 => repeat (first | (with_reducible first | exact HI112.out | apply IsS152.alloc | apply IsS152.drewN | apply IsS152.drew) | exact HI112.out)); (case side2 => repeat (first | (with_reducible first | exact HB.out | apply below_alloc | apply pw_below_drewN | apply below_drew1 | refine below_set ?_ (IsS152.ge HI112.out)) | exact HB.out)); rintro e w81 ⟨rfl, hi, hb, hk⟩; refine ⟨_, rfl, ?_⟩; have n0_ := Aside0.mk (Kd.R_mono (R_keepB (IsS152.apart (show IsS152 w _ gb112 t142 from by repeat (first | (with_reducible first | exact HI112.out | apply IsS152.alloc | apply IsS152.drewN | apply IsS152.drew) | exact HI112.out)) (by (with_reducible repeat (first | apply Kd.R_alloc | apply Kd.R_drewN | apply Kd.R_drew)); exact HO145.out) zb25) hk zb25) (fun _ h => h.1)); have n1_ := Aside0.mk (hb); have n2_ := Aside0.mk (hi); clear HO145; clear HB; clear HI112; have HO145 := n0_; have HB := n1_; have HI112 := n2_; clear n0_ n1_ n2_; (try clear hb); (try clear hk); (try clear hi)) | ((with_reducible refine gate_callee (f := 94) rfl ?_); refine goesL_ (some 68) rfl rfl Tryz.func94 zb10 rfl #[.string t146] rfl zb3 ?_; (with_reducible refine (adler_Sum.calls t146 t148 _ A75.out).mono ?_); rintro e w82 ⟨rfl, hb⟩; refine ⟨_, rfl, ?_⟩; have n0_ := Aside0.mk (Kd.R_below (by (with_reducible repeat (first | apply Kd.R_alloc | apply Kd.R_drewN | apply Kd.R_drew)); exact HO145.out) hb); have n1_ := Aside0.mk (IsS152.below zb23 hb); have n2_ := Aside0.mk (below_step zb12 hb); clear HO145; clear HI112; clear HB; have HO145 := n0_; have HI112 := n1_; have HB := n2_; clear n0_ n1_ n2_; (try clear hb); (try clear hb2); (try clear hk); (try clear hi)) | ((with_reducible refine gate_dst (N := 69) rfl ?_); (try (refine gate_guard (by rfl) ?_; dsimp only)); refine Kd.R_lit (Kd.int .i64) _ 3 ?hg (N := 69) ?hd (xs := ([t148] : List Int)) (inner := [.int .i64 t148]) (ok := fun _ => True) (okp := fun _ => True) ?hr ?hp (fun _ hk => hk) trivial (Below.refl _ _) (Nat.le_refl _) zb35 ?_; (case hd => rfl); (case hg => rfl); (case hr => first | (go_simp; done) | (go_simp; rfl)); (case hp => exact (Reps.one (show Kd.M (Kd.int .i64) _ _ _ t148 [.int .i64 t148] from rfl) (Reps.none _ _))); intro v150 w83 ho84 hb hg_ hnew_; clear hg_ hnew_; (first | rw [← Ny149.out] at ho84 | (simp only [Int.reduceToNat] at ho84; rw [← Ny149.out] at ho84)); have n0_ := Aside0.mk (Kd.R_below (by (with_reducible repeat (first | apply Kd.R_alloc | apply Kd.R_drewN | apply Kd.R_drew)); exact HO145.out) hb); have n1_ := Aside0.mk (Kd.R_lower ho84 (below_size zb12)); have n2_ := Aside0.mk (IsS152.below zb23 hb); have n3_ := Aside0.mk (below_step zb12 hb); clear HO145; clear HI112; clear HB; have HO145 := n0_; have HO151 := n1_; have HI112 := n2_; have HB := n3_; clear n0_ n1_ n2_ n3_; clear hb ho84; obtain ⟨Ao85, co85, eo85⟩ := Kd.R_slice HO145.out; subst eo85; obtain ⟨Ao86, co86, eo86⟩ := Kd.R_slice HO151.out; subst eo86) | ((with_reducible refine gate_callee (f := 110) rfl ?_); refine goesL_ (some 70) rfl rfl Tryz.func110 zb10 rfl #[.slice Ao85 y143.length co85, .slice Ao86 y149.length co86] rfl zb3 ?_; (with_reducible refine (manifest_line.calls k1 (fun k_ => some k_ = (.slice Ao85 y143.length co85 : Value).ownBlock) (.slice Ao85 y143.length co85) y143 _ _ y149 t152 w _ ?side1 ?side2 ?side3 ?side4 ?side5 A76.out).mono ?_); (case side1 => repeat (first | (with_reducible first | exact HB.out | apply below_alloc | apply pw_below_drewN | apply below_drew1 | refine below_set ?_ (IsS152.ge HI112.out)) | exact HB.out)); (case side2 => exact Kd.R_tight rfl HO145.out); (case side3 => exact Kd.C_kept_own ((Kd.R_apart' HO151.out (Kd.R_typed HO145.out) zb25)) (fun k_ hk_ hs_ => (hk_.2) hs_)); (case side4 => exact (Kd.R_reads' HO151.out).2.1); (case side5 => exact hGA.out); rintro e w87 ⟨rfl, hb, hkp⟩; refine ⟨_, rfl, ?_⟩; have n0_ := Aside0.mk (IsS152.kept zb23 hkp (fun k_ hs_ => (fun e_ => IsS152.own_far HI112.out HO145.out zb25 k_ e_.symm) hs_)); have n1_ := Aside0.mk (Kd.R_mono (ok' := fun k_ => True) (Kd.R_keptB ((Kd.R_apart' HO151.out (Kd.R_typed HO145.out) zb25)) hkp (fun k_ hk_ hs_ => (hk_.2) hs_)) (fun k_ hk_ => trivial)); have n2_ := Aside0.mk (hb); clear HI112; clear HO151; clear HB; clear HO145; have HI112 := n0_; have HO151 := n1_; have HB := n2_; clear n0_ n1_ n2_; (try clear hb); (try clear hkp)))
      go_ret2
      exact ⟨zb15, zb12⟩
     ·rw [if_neg c77] at H
      exact absurd H zb35
 ·replace c4 := Bool.eq_false_iff.mpr c4
  subst c4
  replace H : (some ((⟨#[]⟩ : ByteArray), 30)) = some (r1, r2) := by rw [if_neg (show ¬ (false = true) by decide)] at H; exact H
  simp only [Option.some.injEq, Prod.mk.injEq] at H
  obtain ⟨rfl, rfl⟩ := H
  go_enter Tryz.func63, Tryz.ntmps63
  go_wp2_with (first | ((with_reducible refine gate_dst (N := 11) rfl ?_); (try (refine gate_guard (by rfl) ?_; dsimp only)); refine Kd.R_lit (Kd.int .i64) _ 3 ?hg (N := 11) ?hd (xs := ([a0] : List Int)) (inner := [.int .i64 a0]) (ok := fun _ => True) (okp := fun _ => True) ?hr ?hp (fun _ hk => hk) trivial (Below.refl _ _) (Nat.le_refl _) zb35 ?_; (case hd => rfl); (case hg => rfl); (case hr => first | (go_simp; done) | (go_simp; rfl)); (case hp => exact (Reps.one (show Kd.M (Kd.int .i64) _ _ _ a0 [.int .i64 a0] from rfl) (Reps.none _ _))); intro v109 w88 ho89 hb hg_ hnew_; clear hg_ hnew_; (first | rw [← Ny108.out] at ho89 | (simp only [Int.reduceToNat] at ho89; rw [← Ny108.out] at ho89)); have n0_ := Aside0.mk (Kd.R_lower ho89 (below_size zb1)); have n1_ := Aside0.mk (below_step zb1 hb); clear HB; have HO110 := n0_; have HB := n1_; clear n0_ n1_; clear hb ho89; obtain ⟨Ao90, co90, eo90⟩ := Kd.R_slice HO110.out; subst eo90) | ((with_reducible refine gate_callee (f := 108) rfl ?_); refine goesL_ (some 12) rfl rfl Tryz.func108 zb10 rfl #[.slice Ao90 y108.length co90] rfl zb3 ?_; (with_reducible refine (manifest_near.calls k _ _ y108 false _ ?side1 ?side2 A3.out).mono ?_); (case side1 => repeat (first | exact (Kd.R_reads' HO110.out).2.2 | (with_reducible refine Kd.C_alloc ?_ _) | (with_reducible refine Kd.C_drewN ?_ _) | (with_reducible refine Kd.C_drew ?_))); (case side2 => exact (Kd.R_reads' HO110.out).2.1); rintro e w' ⟨rfl, ⟨nd, rfl⟩⟩; refine ⟨_, rfl, ?_⟩))
  go_ret2
  exact ⟨zb15, zb1⟩
end Go.Proofs.YtfpbpakgajddnaaGreatDoor.P
/- Px9 -/
namespace Go.Proofs.YtfpbpakgajddnaaGreatDoor.P
open Go.Proofs.YtfpbpakgajddnaaGreatDoor.B
open Go.RowKit Go.Proofs.YtfpbpakgajddnaaGreatDoorW.PrintWords Go.Proofs.YtfpbpakgajddnaaGreatDoorW.PrintLast Go.Proofs.YtfpbpakgajddnaaGreatDoorW.PrintMore
attribute [local go_sem] run_store_float str_leq str_gtr str_geq max2_int min2_int max_two min_two max_three min_three max_four min_four
set_option linter.unusedVariables false
set_option linter.unusedSimpArgs false
def stringslite_HasPrefix.f (a0 : ByteArray) (a1 : ByteArray) : Option (Bool) := if (a0.size : Int) ≥ (a1.size : Int) then (if 0 ≤ (a1.size : Int) then (if (a1.size : Int) ≤ (a0.size : Int) then (some ((a0.extract 0 ((a1.size : Int) : Int).toNat).toList == a1.toList)) else (none)) else (none)) else (some false)
set_option maxHeartbeats 8000000 in
set_option maxRecDepth 100000 in
theorem stringslite_HasPrefix.calls (a0 : ByteArray) (a1 : ByteArray) (r : Bool) (w : World) (h : stringslite_HasPrefix.f a0 a1 = some r) :
  Calls Tryz.prog 154 #[.string a0, .string a1] w fun e w' => e = .returned (.bool r) ∧ Drawn0 w w' := by
 have H : (if (a0.size : Int) ≥ (a1.size : Int) then (if 0 ≤ (a1.size : Int) then (if (a1.size : Int) ≤ (a0.size : Int) then (some ((a0.extract 0 ((a1.size : Int) : Int).toNat).toList == a1.toList)) else (none)) else (none)) else (some false)) = some r := h
 clear h
 by_cases c3 : (a0.size : Int) ≥ (a1.size : Int)
 ·rw [if_pos c3] at H
  have c3b0 : decide ((a1.size : Int) ≤ (a0.size : Int)) = true := decide_eq_true c3
  have c3b1 : decide (a1.size ≤ a0.size) = true := decide_eq_true (Int.ofNat_le.mp c3)
  clear c3
  by_cases c4 : 0 ≤ (a1.size : Int)
  ·rw [if_pos c4] at H
   have c4b0 := eq_true c4
   have c4b1 : decide (0 ≤ (a1.size : Int)) = true := decide_eq_true c4
   clear c4
   by_cases c5 : (a1.size : Int) ≤ (a0.size : Int)
   ·rw [if_pos c5] at H
    have c5b0 := eq_true c5
    have c5b1 : decide ((a1.size : Int) ≤ (a0.size : Int)) = true := decide_eq_true c5
    clear c5
    obtain rfl := Option.some.inj H
    go_enter Tryz.func154, Tryz.ntmps154
    go_wp2
    go_ret
    exact ⟨by first | rfl | (simp; done) | (simp [*]; done), by repeat (first | exact Drawn0.refl _ | apply Drawn0.step)⟩
   ·rw [if_neg c5] at H
    exact absurd H zb35
  ·rw [if_neg c4] at H
   exact absurd H zb35
 ·rw [if_neg c3] at H
  have c3b0 : decide ((a1.size : Int) ≤ (a0.size : Int)) = false := decide_eq_false c3
  have c3b1 : decide (a1.size ≤ a0.size) = false := decide_eq_false (fun h => c3 (Int.ofNat_le.mpr h))
  clear c3
  obtain rfl := Option.some.inj H
  go_enter Tryz.func154, Tryz.ntmps154
  go_wp2
  go_ret
  exact ⟨by first | rfl | (simp; done) | (simp [*]; done), by repeat (first | exact Drawn0.refl _ | apply Drawn0.step)⟩
def stringslite_TrimPrefix.f (a0 : ByteArray) (a1 : ByteArray) : Option (ByteArray) := (stringslite_HasPrefix.f a0 a1).bind fun t153 => (if t153 = true then (if 0 ≤ (a1.size : Int) then (if (a1.size : Int) ≤ (a0.size : Int) then (some (a0.extract ((a1.size : Int) : Int).toNat a0.size)) else (none)) else (none)) else (some a0))
set_option maxHeartbeats 8000000 in
set_option maxRecDepth 100000 in
theorem stringslite_TrimPrefix.calls (a0 : ByteArray) (a1 : ByteArray) (r : ByteArray) (w : World) (h : stringslite_TrimPrefix.f a0 a1 = some r) :
  Calls Tryz.prog 131 #[.string a0, .string a1] w fun e w' => e = .returned (.string r) ∧ Drawn0 w w' := by
 have H : ((stringslite_HasPrefix.f a0 a1).bind fun t153 => (if t153 = true then (if 0 ≤ (a1.size : Int) then (if (a1.size : Int) ≤ (a0.size : Int) then (some (a0.extract ((a1.size : Int) : Int).toNat a0.size)) else (none)) else (none)) else (some a0))) = some r := h
 clear h
 replace H := Option.bind_eq_some_iff.mp H
 obtain ⟨t153, A30, H⟩ := H
 replace H : (if t153 = true then (if 0 ≤ (a1.size : Int) then (if (a1.size : Int) ≤ (a0.size : Int) then (some (a0.extract ((a1.size : Int) : Int).toNat a0.size)) else (none)) else (none)) else (some a0)) = some r := H
 have A3 := Aside0.mk A30
 clear A30
 by_cases c4 : t153 = true
 ·subst c4
  replace H : (if 0 ≤ (a1.size : Int) then (if (a1.size : Int) ≤ (a0.size : Int) then (some (a0.extract ((a1.size : Int) : Int).toNat a0.size)) else (none)) else (none)) = some r := by rw [if_pos rfl] at H; exact H
  by_cases c5 : 0 ≤ (a1.size : Int)
  ·rw [if_pos c5] at H
   have c5b0 := eq_true c5
   have c5b1 : decide (0 ≤ (a1.size : Int)) = true := decide_eq_true c5
   clear c5
   by_cases c6 : (a1.size : Int) ≤ (a0.size : Int)
   ·rw [if_pos c6] at H
    have c6b0 := eq_true c6
    have c6b1 : decide ((a1.size : Int) ≤ (a0.size : Int)) = true := decide_eq_true c6
    clear c6
    obtain rfl := Option.some.inj H
    go_enter Tryz.func131, Tryz.ntmps131
    go_wp2_with (first | ((with_reducible refine gate_callee (f := 154) rfl ?_); refine goesL_ (some 7) rfl rfl Tryz.func154 zb10 rfl #[.string a0, .string a1] rfl zb3 ?_; (with_reducible refine (stringslite_HasPrefix.calls a0 a1 true _ A3.out).mono ?_); rintro e w' ⟨rfl, ⟨nd, rfl⟩⟩; refine ⟨_, rfl, ?_⟩))
    go_ret
    exact ⟨by first | rfl | (simp; done) | (simp [*]; done), by repeat (first | exact Drawn0.refl _ | apply Drawn0.step)⟩
   ·rw [if_neg c6] at H
    exact absurd H zb35
  ·rw [if_neg c5] at H
   exact absurd H zb35
 ·replace c4 := Bool.eq_false_iff.mpr c4
  subst c4
  replace H : (some a0) = some r := by rw [if_neg (show ¬ (false = true) by decide)] at H; exact H
  obtain rfl := Option.some.inj H
  go_enter Tryz.func131, Tryz.ntmps131
  go_wp2_with (first | ((with_reducible refine gate_callee (f := 154) rfl ?_); refine goesL_ (some 7) rfl rfl Tryz.func154 zb10 rfl #[.string a0, .string a1] rfl zb3 ?_; (with_reducible refine (stringslite_HasPrefix.calls a0 a1 false _ A3.out).mono ?_); rintro e w' ⟨rfl, ⟨nd, rfl⟩⟩; refine ⟨_, rfl, ?_⟩))
  go_ret
  exact ⟨by first | rfl | (simp; done) | (simp [*]; done), by repeat (first | exact Drawn0.refl _ | apply Drawn0.step)⟩
def strings_TrimPrefix.f (a0 : ByteArray) (a1 : ByteArray) : Option (ByteArray) := (stringslite_TrimPrefix.f a0 a1).bind fun t154 => (some t154)
set_option maxHeartbeats 8000000 in
set_option maxRecDepth 100000 in
theorem strings_TrimPrefix.calls (a0 : ByteArray) (a1 : ByteArray) (r : ByteArray) (w : World) (h : strings_TrimPrefix.f a0 a1 = some r) :
  Calls Tryz.prog 90 #[.string a0, .string a1] w fun e w' => e = .returned (.string r) ∧ Drawn0 w w' := by
 have H : ((stringslite_TrimPrefix.f a0 a1).bind fun t154 => (some t154)) = some r := h
 clear h
 replace H := Option.bind_eq_some_iff.mp H
 obtain ⟨t154, A30, H⟩ := H
 replace H : (some t154) = some r := H
 have A3 := Aside0.mk A30
 clear A30
 obtain rfl := Option.some.inj H
 go_enter Tryz.func90, Tryz.ntmps90
 go_wp2_with (first | ((with_reducible refine gate_callee (f := 131) rfl ?_); refine goesL_ (some 7) rfl rfl Tryz.func131 zb10 rfl #[.string a0, .string a1] rfl zb3 ?_; (with_reducible refine (stringslite_TrimPrefix.calls a0 a1 t154 _ A3.out).mono ?_); rintro e w' ⟨rfl, ⟨nd, rfl⟩⟩; refine ⟨_, rfl, ?_⟩))
 go_ret
 exact ⟨by first | rfl | (simp; done) | (simp [*]; done), by repeat (first | exact Drawn0.refl _ | apply Drawn0.step)⟩
end Go.Proofs.YtfpbpakgajddnaaGreatDoor.P
/- Px12 -/
namespace Go.Proofs.YtfpbpakgajddnaaGreatDoor.P
open Go.Proofs.YtfpbpakgajddnaaGreatDoor.B
open Go.RowKit Go.Proofs.YtfpbpakgajddnaaGreatDoorW.PrintWords Go.Proofs.YtfpbpakgajddnaaGreatDoorW.PrintLast Go.Proofs.YtfpbpakgajddnaaGreatDoorW.PrintMore
attribute [local go_sem] run_store_float str_leq str_gtr str_geq max2_int min2_int max_two min_two max_three min_three max_four min_four
set_option linter.unusedVariables false
set_option linter.unusedSimpArgs false
open Go.Proofs.YtfpbpakgajddnaaGreatDoor.O
def manifest_row.f (a0 : ByteArray) : Option (ByteArray × ByteArray × Int × Int × Bool) := (strings_Split.f a0 (⟨#[32]⟩ : ByteArray)).bind fun t156 => (if (t156.length : Int) = 4 then (if 2 < (t156.length : Int) then ((strconv_Atoi.f (rdOf ByteArray.empty t156 2)).bind fun bt160 => (if bt160.2.isNone = true then (if 3 < (t156.length : Int) then ((strconv_Atoi.f (rdOf ByteArray.empty t156 3)).bind fun bt164 => (if bt164.2.isNone = true then (if 0 < (t156.length : Int) then (if 1 < (t156.length : Int) then (some (rdOf ByteArray.empty t156 0, rdOf ByteArray.empty t156 1, bt160.1, bt164.1, true)) else (none)) else (none)) else (if 0 < (t156.length : Int) then (if 1 < (t156.length : Int) then (some (rdOf ByteArray.empty t156 0, rdOf ByteArray.empty t156 1, bt160.1, bt164.1, false)) else (none)) else (none)))) else (none)) else (if 3 < (t156.length : Int) then ((strconv_Atoi.f (rdOf ByteArray.empty t156 3)).bind fun bt172 => (if bt172.2.isNone = true then (if 0 < (t156.length : Int) then (if 1 < (t156.length : Int) then (some (rdOf ByteArray.empty t156 0, rdOf ByteArray.empty t156 1, bt160.1, bt172.1, false)) else (none)) else (none)) else (if 0 < (t156.length : Int) then (if 1 < (t156.length : Int) then (some (rdOf ByteArray.empty t156 0, rdOf ByteArray.empty t156 1, bt160.1, bt172.1, false)) else (none)) else (none)))) else (none)))) else (none)) else (some ((⟨#[]⟩ : ByteArray), (⟨#[]⟩ : ByteArray), 0, 0, false)))
def manifest_row.T6 : Bool × List (List Nat × List Nat) := (true, [([], []), ([0], [0]), ([1], [1]), ([], []), ([3], [3]), ([4], [4]), ([], []), ([], []), ([2, 5, 6, 7], [2, 5, 6, 7]), ([], []), ([9], [9]), ([10], [10]), ([11], [11]), ([12, 11], [11, 12]), ([11, 13], [11, 13]), ([8, 11, 0, 1, 2, 3, 4, 5, 6, 7, 8], [8]), ([14, 15, 0, 1, 2, 3, 4, 5, 6, 7, 8, 9, 10, 11, 12, 13, 14, 15], [14])])
def manifest_row.B6 : List Nat := [0, 1, 3, 0, 8, 24, 0, 0, 255, 0, 512, 1536, 3584, 7680, 15872, 4095, 65535]
theorem manifest_row.tab6 : rtab .any (opsOf Tryz.f91 6) = manifest_row.T6 := by kernel_rfl
theorem manifest_row.bits6 : waitsOk manifest_row.T6.2 manifest_row.B6 = true := by kernel_rfl
set_option maxHeartbeats 8000000 in
set_option maxRecDepth 100000 in
theorem manifest_row.calls (a0 : ByteArray) (r1 : ByteArray) (r2 : ByteArray) (r3 : Int) (r4 : Int) (r5 : Bool) (w : World) (hG : Glob w) (h : manifest_row.f a0 = some (r1, r2, r3, r4, r5)) :
  Calls Tryz.prog 91 #[.string a0] w fun e w' => e = .returned (.tuple #[.agg #[.string r1, .string r2, .int .i64 r3, .int .i64 r4], .bool r5]) ∧ Below w.heap.size w w' := by
 have hu120 := Tryz.underlying120
 have hu136 := Tryz.underlying136
 have HB := Aside0.mk (Below.refl w.heap.size w)
 have hGA := Aside0.mk hG
 clear hG
 have H : ((strings_Split.f a0 (⟨#[32]⟩ : ByteArray)).bind fun t156 => (if (t156.length : Int) = 4 then (if 2 < (t156.length : Int) then ((strconv_Atoi.f (rdOf ByteArray.empty t156 2)).bind fun bt160 => (if bt160.2.isNone = true then (if 3 < (t156.length : Int) then ((strconv_Atoi.f (rdOf ByteArray.empty t156 3)).bind fun bt164 => (if bt164.2.isNone = true then (if 0 < (t156.length : Int) then (if 1 < (t156.length : Int) then (some (rdOf ByteArray.empty t156 0, rdOf ByteArray.empty t156 1, bt160.1, bt164.1, true)) else (none)) else (none)) else (if 0 < (t156.length : Int) then (if 1 < (t156.length : Int) then (some (rdOf ByteArray.empty t156 0, rdOf ByteArray.empty t156 1, bt160.1, bt164.1, false)) else (none)) else (none)))) else (none)) else (if 3 < (t156.length : Int) then ((strconv_Atoi.f (rdOf ByteArray.empty t156 3)).bind fun bt172 => (if bt172.2.isNone = true then (if 0 < (t156.length : Int) then (if 1 < (t156.length : Int) then (some (rdOf ByteArray.empty t156 0, rdOf ByteArray.empty t156 1, bt160.1, bt172.1, false)) else (none)) else (none)) else (if 0 < (t156.length : Int) then (if 1 < (t156.length : Int) then (some (rdOf ByteArray.empty t156 0, rdOf ByteArray.empty t156 1, bt160.1, bt172.1, false)) else (none)) else (none)))) else (none)))) else (none)) else (some ((⟨#[]⟩ : ByteArray), (⟨#[]⟩ : ByteArray), 0, 0, false)))) = some (r1, r2, r3, r4, r5) := h
 clear h
 replace H := Option.bind_eq_some_iff.mp H
 obtain ⟨t156, A20, H⟩ := H
 replace H : (if (t156.length : Int) = 4 then (if 2 < (t156.length : Int) then ((strconv_Atoi.f (rdOf ByteArray.empty t156 2)).bind fun bt160 => (if bt160.2.isNone = true then (if 3 < (t156.length : Int) then ((strconv_Atoi.f (rdOf ByteArray.empty t156 3)).bind fun bt164 => (if bt164.2.isNone = true then (if 0 < (t156.length : Int) then (if 1 < (t156.length : Int) then (some (rdOf ByteArray.empty t156 0, rdOf ByteArray.empty t156 1, bt160.1, bt164.1, true)) else (none)) else (none)) else (if 0 < (t156.length : Int) then (if 1 < (t156.length : Int) then (some (rdOf ByteArray.empty t156 0, rdOf ByteArray.empty t156 1, bt160.1, bt164.1, false)) else (none)) else (none)))) else (none)) else (if 3 < (t156.length : Int) then ((strconv_Atoi.f (rdOf ByteArray.empty t156 3)).bind fun bt172 => (if bt172.2.isNone = true then (if 0 < (t156.length : Int) then (if 1 < (t156.length : Int) then (some (rdOf ByteArray.empty t156 0, rdOf ByteArray.empty t156 1, bt160.1, bt172.1, false)) else (none)) else (none)) else (if 0 < (t156.length : Int) then (if 1 < (t156.length : Int) then (some (rdOf ByteArray.empty t156 0, rdOf ByteArray.empty t156 1, bt160.1, bt172.1, false)) else (none)) else (none)))) else (none)))) else (none)) else (some ((⟨#[]⟩ : ByteArray), (⟨#[]⟩ : ByteArray), 0, 0, false))) = some (r1, r2, r3, r4, r5) := H
 have A2 := Aside0.mk A20
 clear A20
 by_cases c3 : (t156.length : Int) = 4
 ·rw [if_pos c3] at H
  have c3b0 : ((t156.length : Int) == 4) = true := beq_iff_eq.mpr c3
  have c3b1 : ((t156.length : Int) != 4) = false := bne_eq_false_iff_eq.mpr c3
  clear c3
  by_cases c4 : 2 < (t156.length : Int)
  ·rw [if_pos c4] at H
   have c4b0 : decide (2 < (t156.length : Int)) = true := decide_eq_true c4
   have c4b1 : decide (2 < t156.length) = true := decide_eq_true zb13
   clear c4
   replace H := Option.bind_eq_some_iff.mp H
   obtain ⟨⟨t160, t161⟩, A50, H⟩ := H
   replace H : (if t161.isNone = true then (if 3 < (t156.length : Int) then ((strconv_Atoi.f (rdOf ByteArray.empty t156 3)).bind fun bt164 => (if bt164.2.isNone = true then (if 0 < (t156.length : Int) then (if 1 < (t156.length : Int) then (some (rdOf ByteArray.empty t156 0, rdOf ByteArray.empty t156 1, t160, bt164.1, true)) else (none)) else (none)) else (if 0 < (t156.length : Int) then (if 1 < (t156.length : Int) then (some (rdOf ByteArray.empty t156 0, rdOf ByteArray.empty t156 1, t160, bt164.1, false)) else (none)) else (none)))) else (none)) else (if 3 < (t156.length : Int) then ((strconv_Atoi.f (rdOf ByteArray.empty t156 3)).bind fun bt172 => (if bt172.2.isNone = true then (if 0 < (t156.length : Int) then (if 1 < (t156.length : Int) then (some (rdOf ByteArray.empty t156 0, rdOf ByteArray.empty t156 1, t160, bt172.1, false)) else (none)) else (none)) else (if 0 < (t156.length : Int) then (if 1 < (t156.length : Int) then (some (rdOf ByteArray.empty t156 0, rdOf ByteArray.empty t156 1, t160, bt172.1, false)) else (none)) else (none)))) else (none))) = some (r1, r2, r3, r4, r5) := H
   have A5 := Aside0.mk A50
   clear A50
   rcases t161 with _ | q162
   ·have H1 : (if 3 < (t156.length : Int) then ((strconv_Atoi.f (rdOf ByteArray.empty t156 3)).bind fun bt164 => (if bt164.2.isNone = true then (if 0 < (t156.length : Int) then (if 1 < (t156.length : Int) then (some (rdOf ByteArray.empty t156 0, rdOf ByteArray.empty t156 1, t160, bt164.1, true)) else (none)) else (none)) else (if 0 < (t156.length : Int) then (if 1 < (t156.length : Int) then (some (rdOf ByteArray.empty t156 0, rdOf ByteArray.empty t156 1, t160, bt164.1, false)) else (none)) else (none)))) else (none)) = some (r1, r2, r3, r4, r5) := by rw [if_pos (show (none : Option Int).isNone = true by rfl)] at H; exact H
    clear H
    have H := H1
    clear H1
    try simp only [errW_none, errW_some]
    by_cases c6 : 3 < (t156.length : Int)
    ·rw [if_pos c6] at H
     have c6b0 : decide (3 < (t156.length : Int)) = true := decide_eq_true c6
     have c6b1 : decide (3 < t156.length) = true := decide_eq_true zb13
     clear c6
     replace H := Option.bind_eq_some_iff.mp H
     obtain ⟨⟨t164, t165⟩, A70, H⟩ := H
     replace H : (if t165.isNone = true then (if 0 < (t156.length : Int) then (if 1 < (t156.length : Int) then (some (rdOf ByteArray.empty t156 0, rdOf ByteArray.empty t156 1, t160, t164, true)) else (none)) else (none)) else (if 0 < (t156.length : Int) then (if 1 < (t156.length : Int) then (some (rdOf ByteArray.empty t156 0, rdOf ByteArray.empty t156 1, t160, t164, false)) else (none)) else (none))) = some (r1, r2, r3, r4, r5) := H
     have A7 := Aside0.mk A70
     clear A70
     rcases t165 with _ | q166
     ·have H1 : (if 0 < (t156.length : Int) then (if 1 < (t156.length : Int) then (some (rdOf ByteArray.empty t156 0, rdOf ByteArray.empty t156 1, t160, t164, true)) else (none)) else (none)) = some (r1, r2, r3, r4, r5) := by rw [if_pos (show (none : Option Int).isNone = true by rfl)] at H; exact H
      clear H
      have H := H1
      clear H1
      try simp only [errW_none, errW_some]
      by_cases c8 : 0 < (t156.length : Int)
      ·rw [if_pos c8] at H
       have c8b0 : decide (0 < (t156.length : Int)) = true := decide_eq_true c8
       have c8b1 : decide (0 < t156.length) = true := decide_eq_true zb13
       clear c8
       by_cases c9 : 1 < (t156.length : Int)
       ·rw [if_pos c9] at H
        have c9b0 : decide (1 < (t156.length : Int)) = true := decide_eq_true c9
        have c9b1 : decide (1 < t156.length) = true := decide_eq_true zb13
        clear c9
        simp only [Option.some.injEq, Prod.mk.injEq] at H
        obtain ⟨rfl, rfl, rfl, rfl, rfl⟩ := H
        go_enter Tryz.func91, Tryz.ntmps91
        try go_wp2_with (first | ((with_reducible refine gate_dst (N := 2) rfl ?_); refine box_event ?hg (N := 2) ?hd (cs := #[.string (⟨#[]⟩ : ByteArray), .string (⟨#[]⟩ : ByteArray), .int .i64 0, .int .i64 0]) (t := 120) ?hr ?_; (case hd => rfl); (case hg => rfl); (case hr => first | (go_simp; done) | (go_simp; rfl)); intro gb155 hg w10 hbox hb; have n0_ := Aside0.mk (below_step zb1 hb); have n1_ := Aside0.mk (hbox); have n2_ := Aside0.mk ((by rw [hg]; exact (below_size zb1) : w.heap.size ≤ gb155)); have n3_ := Aside0.mk ((by rw [hg]; exact (below_size zb1) : w.heap.size ≤ gb155)); clear HB; have HB := n0_; have BK155 := n1_; have GW155 := n2_; have GE155 := n3_; clear n0_ n1_ n2_ n3_; clear hb hbox hg) | ((with_reducible refine gate_callee (f := 88) rfl ?_); refine goesL_ (some 10) rfl rfl Tryz.func88 zb10 rfl #[.string a0, .string (⟨#[32]⟩ : ByteArray)] rfl zb3 ?_; (with_reducible refine (strings_Split.calls a0 (⟨#[32]⟩ : ByteArray) t156 _ ?side1 A2.out).mono ?_); (case side1 => exact Glob.below hGA.out zb4); rintro e w11 ⟨v157, rfl, ho0, hb⟩; refine ⟨_, rfl, ?_⟩; have n0_ := Aside0.mk (Kd.R_lower ho0 (below_size zb4)); have n1_ := Aside0.mk (blk_below (g := gb155) (o := .cells #[.string (⟨#[]⟩ : ByteArray), .string (⟨#[]⟩ : ByteArray), .int .i64 0, .int .i64 0] 120 (0, 0)) zb16 hb); have n2_ := Aside0.mk (below_step zb4 hb); clear BK155; clear HB; have HO158 := n0_; have BK155 := n1_; have HB := n2_; clear n0_ n1_ n2_; (try clear hb); (try clear hb2); (try clear hk); (try clear hi); (try clear ho0); obtain ⟨Ao12, co12, eo12⟩ := Kd.R_slice HO158.out; subst eo12; have p159 : 0 ≤ (2 : Int) := zb13; have q159 : 2 < (t156.length : Int) := of_decide_eq_true zb5; obtain ⟨ad159, e159, hx159_0⟩ := Kd.at_string (Kd.R_reads' HO158.out).2.2 2 p159 q159; cases e159; (try simp only [show (2 : Int).toNat = 2 from rfl, Nat.reduceMul, Nat.reduceEqDiff, Go.Addr.add, ↓reduceIte] at hx159_0); have qi159 : (2 < t156.length) = True := eq_true zb13; (try rw [show ((2 : Int)).toNat = 2 from rfl] at hx159_0); replace p159 := eq_true p159; replace q159 := eq_true q159) | ((with_reducible refine gate_callee (f := 89) rfl ?_); refine goesL_ (some 19) rfl rfl Tryz.func89 zb10 rfl #[.string (rdOf ByteArray.empty t156 2)] rfl zb3 ?_; (with_reducible refine (strconv_Atoi.calls (rdOf ByteArray.empty t156 2) t160 none _ ?side1 A5.out).mono ?_); (case side1 => exact Glob.below hGA.out zb4); rintro e w13 ⟨pv14, hpv14, rfl, hb⟩; refine ⟨_, rfl, ?_⟩; obtain rfl := ErrIs.none_ hpv14; have n0_ := Aside0.mk (Kd.R_below zb28 hb); have n1_ := Aside0.mk (blk_below (g := gb155) (o := .cells #[.string (⟨#[]⟩ : ByteArray), .string (⟨#[]⟩ : ByteArray), .int .i64 0, .int .i64 0] 120 (0, 0)) zb16 hb); have n2_ := Aside0.mk (below_step zb4 hb); clear HO158; clear BK155; clear HB; have HO158 := n0_; have BK155 := n1_; have HB := n2_; clear n0_ n1_ n2_; (try clear hb); (try clear hb2); (try clear hk); (try clear hi); (try simp only [errW_none, errW_some]); have p163 : 0 ≤ (3 : Int) := zb13; have q163 : 3 < (t156.length : Int) := of_decide_eq_true zb5; obtain ⟨ad163, e163, hx163_0⟩ := Kd.at_string (Kd.R_reads' HO158.out).2.2 3 p163 q163; obtain rfl : ad159 = ad163 := (by injection e163); (try simp only [show (3 : Int).toNat = 3 from rfl, Nat.reduceMul, Nat.reduceEqDiff, Go.Addr.add, ↓reduceIte] at hx163_0); have qi163 : (3 < t156.length) = True := eq_true zb13; (try rw [show ((3 : Int)).toNat = 3 from rfl] at hx163_0); replace p163 := eq_true p163; replace q163 := eq_true q163) | ((with_reducible refine gate_callee (f := 89) rfl ?_); refine goesL_ (some 26) rfl rfl Tryz.func89 zb10 rfl #[.string (rdOf ByteArray.empty t156 3)] rfl zb3 ?_; (with_reducible refine (strconv_Atoi.calls (rdOf ByteArray.empty t156 3) t164 none _ ?side1 A7.out).mono ?_); (case side1 => exact Glob.below hGA.out zb4); rintro e w15 ⟨pv16, hpv16, rfl, hb⟩; refine ⟨_, rfl, ?_⟩; obtain rfl := ErrIs.none_ hpv16; have n0_ := Aside0.mk (Kd.R_below zb28 hb); have n1_ := Aside0.mk (blk_below (g := gb155) (o := .cells #[.string (⟨#[]⟩ : ByteArray), .string (⟨#[]⟩ : ByteArray), .int .i64 0, .int .i64 0] 120 (0, 0)) zb16 hb); have n2_ := Aside0.mk (below_step zb4 hb); clear HO158; clear BK155; clear HB; have HO158 := n0_; have BK155 := n1_; have HB := n2_; clear n0_ n1_ n2_; (try clear hb); (try clear hb2); (try clear hk); (try clear hi); (try simp only [errW_none, errW_some])))
        have n0_ := Aside0.mk (Kd.R_drew HO158.out)
        have n1_ := Aside0.mk (blk_drew BK155.out)
        have n2_ := Aside0.mk (below_drew1 HB.out)
        clear HO158
        clear BK155
        clear HB
        have HO158 := n0_
        have BK155 := n1_
        have HB := n2_
        clear n0_ n1_ n2_
        have p167 : 0 ≤ (0 : Int) := zb13
        have q167 : 0 < (t156.length : Int) := of_decide_eq_true zb5
        obtain ⟨ad167, e167, hx167_0⟩ := Kd.at_string (Kd.R_reads' HO158.out).2.2 0 p167 q167
        obtain rfl : ad159 = ad167 := (by injection e167)
        have qi167 : (0 < t156.length) = True := eq_true zb13
        (try rw [show ((0 : Int)).toNat = 0 from rfl] at hx167_0)
        (try rw [Addr.add_zero'] at hx167_0)
        replace p167 := eq_true p167
        replace q167 := eq_true q167
        have p168 : 0 ≤ (1 : Int) := zb13
        have q168 : 1 < (t156.length : Int) := of_decide_eq_true zb5
        obtain ⟨ad168, e168, hx168_0⟩ := Kd.at_string (Kd.R_reads' HO158.out).2.2 1 p168 q168
        obtain rfl : ad159 = ad168 := (by injection e168)
        (try simp only [show (1 : Int).toNat = 1 from rfl, Nat.reduceMul, Nat.reduceEqDiff, Go.Addr.add, ↓reduceIte] at hx168_0)
        have qi168 : (1 < t156.length) = True := eq_true zb13
        (try rw [show ((1 : Int)).toNat = 1 from rfl] at hx168_0)
        replace p168 := eq_true p168
        replace q168 := eq_true q168
        refine start_ (n := 17) (S := fun w' => w'.cell? ad159 = some (.string (rdOf ByteArray.empty t156 0)) ∧ w'.cell? ⟨ad159.block, ad159.off + 1, none⟩ = some (.string (rdOf ByteArray.empty t156 1))) (ds := []) #[false, false, false, false, false, false, false, false, false, false, false, false, false, false, false, false, false] zb10 rfl rfl ⟨hx167_0, hx168_0⟩ (fun hHeld => ?_); refine with_tabW manifest_row.tab6 manifest_row.bits6 (fun HT_ HW_ => ?_)
        generalize w15.drew = w17 at HO158 BK155 HB hx167_0 hx168_0 hHeld ⊢
        refine pus_ 0 (some 29) rfl rfl (any_of HT_.out zb10) (fun w' => by (go_simp; first | with_reducible rfl | (rw [if_neg zb0]))) ?_
        refine pus_ 1 (some 30) rfl rfl (any_of HT_.out zb10) (fun w' => by (go_simp; first | with_reducible rfl | (rw [if_neg zb0]))) ?_
        refine pus_ 3 (some 32) rfl rfl (any_of HT_.out zb10) (fun w' => by (go_simp; first | with_reducible rfl | (rw [if_neg zb0]))) ?_
        refine pus_ 4 (some 33) rfl rfl (any_of HT_.out zb10) (fun w' => by (go_simp; first | with_reducible rfl | (rw [if_neg zb0]))) ?_
        refine pus_ 6 (some 35) rfl rfl (any_of HT_.out zb10) (fun w' => by (go_simp; first | with_reducible rfl | (rw [if_neg zb0]))) ?_
        refine pus_ 7 (some 36) rfl rfl (any_of HT_.out zb10) (fun w' => by (go_simp; first | with_reducible rfl | (rw [if_neg zb0]))) ?_
        refine pus_ 9 (some 38) rfl rfl (any_of HT_.out zb10) (fun w' => by (go_simp; first | with_reducible rfl | (rw [if_neg zb0]))) ?_
        refine pus_ 10 (some 39) rfl rfl (any_of HT_.out zb10) (fun w' => by (go_simp; first | with_reducible rfl | (rw [if_neg zb0]))) ?_
        refine pus_ 11 (some 40) rfl rfl (any_of HT_.out zb10) (fun w' => by (go_simp; first | with_reducible rfl | (rw [if_neg zb0]))) ?_
        refine pus_ 12 (some 41) rfl rfl (any_of HT_.out zb10) (fun w' => by (go_simp; first | with_reducible rfl | (rw [if_neg zb0]))) ?_
        refine pus_ 13 (some 42) rfl rfl (any_of HT_.out zb10) (fun w' => by (go_simp; first | with_reducible rfl | (rw [if_neg zb0]))) ?_
        refine pus_ 14 (some 43) rfl rfl (any_of HT_.out zb10) (fun w' => by (go_simp; first | with_reducible rfl | (rw [if_neg zb0]))) ?_
        refine tas_ 2 (some 31) rfl rfl (take_ofW HT_.out HW_.out zb10) hHeld (fun w' ⟨s0, s1⟩ => by (go_simp; first | with_reducible rfl | (rw [if_neg zb0]))) ?_
        refine tas_ 5 (some 34) rfl rfl (take_ofW HT_.out HW_.out zb10) hHeld (fun w' ⟨s0, s1⟩ => by (go_simp; first | with_reducible rfl | (rw [if_neg zb0]))) ?_
        refine pus_ 8 (some 37) rfl rfl (any_of HT_.out zb10) (fun w' => by (go_simp; first | with_reducible rfl | (rw [if_neg zb0]))) ?_
        refine ons_ 15 none rfl rfl (one_of HT_.out zb10) zb25 (fun K hK => ?_)
        have hs18 : w17.cell? ⟨gb155, 0, none⟩ = some (.string (⟨#[]⟩ : ByteArray)) := (blk_cell BK155.out 0).trans rfl
        have hfs18 := blk_frozen BK155.out 0
        have hs19 : w17.cell? ⟨gb155, 1, none⟩ = some (.string (⟨#[]⟩ : ByteArray)) := (blk_cell BK155.out 1).trans rfl
        have hfs19 := blk_frozen BK155.out 1
        have hs20 : w17.cell? ⟨gb155, 2, none⟩ = some (.int .i64 0) := (blk_cell BK155.out 2).trans rfl
        have hfs20 := blk_frozen BK155.out 2
        have hs21 : w17.cell? ⟨gb155, 3, none⟩ = some (.int .i64 0) := (blk_cell BK155.out 3).trans rfl
        have hfs21 := blk_frozen BK155.out 3
        refine skip_ (w1 := ?_) (by rfl) rfl ?_ ?_
        rotate_left
        ·go_simp
         rfl
        refine hK.out _ _ ⟨((cell_far (p := ⟨gb155, _, none⟩) zb2 _).trans (((cell_far (p := ⟨gb155, _, none⟩) zb2 _).trans (((cell_far (p := ⟨gb155, _, none⟩) zb2 _).trans (((cell_far (p := ⟨gb155, _, none⟩) zb2 _).trans (hHeld.1)))))))), ((cell_far (p := ⟨gb155, _, none⟩) zb2 _).trans (((cell_far (p := ⟨gb155, _, none⟩) zb2 _).trans (((cell_far (p := ⟨gb155, _, none⟩) zb2 _).trans (((cell_far (p := ⟨gb155, _, none⟩) zb2 _).trans (hHeld.2))))))))⟩ (fun hHeld => ?_)
        clear hK K
        refine pus_ 16 (some 3) rfl rfl (any_of HT_.out zb10) (fun w' => by (go_simp; first | with_reducible rfl | (rw [if_neg zb0]))) ?_
        refine done_ (done_of HT_.out zb10) ?_
        try go_wp2
        refine bodyPost_ret (results_ct rfl _ _ gb155 120 #[.string (rdOf ByteArray.empty t156 0), .string (rdOf ByteArray.empty t156 1), .int .i64 t160, .int .i64 t164] (0, 0) _ rfl zb6 Tryz.underlying120 rfl zb10) rfl ?_
        exact ⟨zb15, zb4⟩
       ·rw [if_neg c9] at H
        exact absurd H zb35
      ·rw [if_neg c8] at H
       exact absurd H zb35
     ·have H1 : (if 0 < (t156.length : Int) then (if 1 < (t156.length : Int) then (some (rdOf ByteArray.empty t156 0, rdOf ByteArray.empty t156 1, t160, t164, false)) else (none)) else (none)) = some (r1, r2, r3, r4, r5) := by rw [if_neg (show ¬ (some q166).isNone = true by simp)] at H; exact H
      clear H
      have H := H1
      clear H1
      try simp only [errW_none, errW_some]
      by_cases c22 : 0 < (t156.length : Int)
      ·rw [if_pos c22] at H
       have c22b0 : decide (0 < (t156.length : Int)) = true := decide_eq_true c22
       have c22b1 : decide (0 < t156.length) = true := decide_eq_true zb13
       clear c22
       by_cases c23 : 1 < (t156.length : Int)
       ·rw [if_pos c23] at H
        have c23b0 : decide (1 < (t156.length : Int)) = true := decide_eq_true c23
        have c23b1 : decide (1 < t156.length) = true := decide_eq_true zb13
        clear c23
        simp only [Option.some.injEq, Prod.mk.injEq] at H
        obtain ⟨rfl, rfl, rfl, rfl, rfl⟩ := H
        go_enter Tryz.func91, Tryz.ntmps91
        try go_wp2_with (first | ((with_reducible refine gate_dst (N := 2) rfl ?_); refine box_event ?hg (N := 2) ?hd (cs := #[.string (⟨#[]⟩ : ByteArray), .string (⟨#[]⟩ : ByteArray), .int .i64 0, .int .i64 0]) (t := 120) ?hr ?_; (case hd => rfl); (case hg => rfl); (case hr => first | (go_simp; done) | (go_simp; rfl)); intro gb155 hg w24 hbox hb; have n0_ := Aside0.mk (below_step zb1 hb); have n1_ := Aside0.mk (hbox); have n2_ := Aside0.mk ((by rw [hg]; exact (below_size zb1) : w.heap.size ≤ gb155)); have n3_ := Aside0.mk ((by rw [hg]; exact (below_size zb1) : w.heap.size ≤ gb155)); clear HB; have HB := n0_; have BK155 := n1_; have GW155 := n2_; have GE155 := n3_; clear n0_ n1_ n2_ n3_; clear hb hbox hg) | ((with_reducible refine gate_callee (f := 88) rfl ?_); refine goesL_ (some 10) rfl rfl Tryz.func88 zb10 rfl #[.string a0, .string (⟨#[32]⟩ : ByteArray)] rfl zb3 ?_; (with_reducible refine (strings_Split.calls a0 (⟨#[32]⟩ : ByteArray) t156 _ ?side1 A2.out).mono ?_); (case side1 => exact Glob.below hGA.out zb4); rintro e w25 ⟨v157, rfl, ho0, hb⟩; refine ⟨_, rfl, ?_⟩; have n0_ := Aside0.mk (Kd.R_lower ho0 (below_size zb4)); have n1_ := Aside0.mk (blk_below (g := gb155) (o := .cells #[.string (⟨#[]⟩ : ByteArray), .string (⟨#[]⟩ : ByteArray), .int .i64 0, .int .i64 0] 120 (0, 0)) zb16 hb); have n2_ := Aside0.mk (below_step zb4 hb); clear BK155; clear HB; have HO158 := n0_; have BK155 := n1_; have HB := n2_; clear n0_ n1_ n2_; (try clear hb); (try clear hb2); (try clear hk); (try clear hi); (try clear ho0); obtain ⟨Ao26, co26, eo26⟩ := Kd.R_slice HO158.out; subst eo26; have p159 : 0 ≤ (2 : Int) := zb13; have q159 : 2 < (t156.length : Int) := of_decide_eq_true zb5; obtain ⟨ad159, e159, hx159_0⟩ := Kd.at_string (Kd.R_reads' HO158.out).2.2 2 p159 q159; cases e159; (try simp only [show (2 : Int).toNat = 2 from rfl, Nat.reduceMul, Nat.reduceEqDiff, Go.Addr.add, ↓reduceIte] at hx159_0); have qi159 : (2 < t156.length) = True := eq_true zb13; (try rw [show ((2 : Int)).toNat = 2 from rfl] at hx159_0); replace p159 := eq_true p159; replace q159 := eq_true q159) | ((with_reducible refine gate_callee (f := 89) rfl ?_); refine goesL_ (some 19) rfl rfl Tryz.func89 zb10 rfl #[.string (rdOf ByteArray.empty t156 2)] rfl zb3 ?_; (with_reducible refine (strconv_Atoi.calls (rdOf ByteArray.empty t156 2) t160 none _ ?side1 A5.out).mono ?_); (case side1 => exact Glob.below hGA.out zb4); rintro e w27 ⟨pv28, hpv28, rfl, hb⟩; refine ⟨_, rfl, ?_⟩; obtain rfl := ErrIs.none_ hpv28; have n0_ := Aside0.mk (Kd.R_below zb28 hb); have n1_ := Aside0.mk (blk_below (g := gb155) (o := .cells #[.string (⟨#[]⟩ : ByteArray), .string (⟨#[]⟩ : ByteArray), .int .i64 0, .int .i64 0] 120 (0, 0)) zb16 hb); have n2_ := Aside0.mk (below_step zb4 hb); clear HO158; clear BK155; clear HB; have HO158 := n0_; have BK155 := n1_; have HB := n2_; clear n0_ n1_ n2_; (try clear hb); (try clear hb2); (try clear hk); (try clear hi); (try simp only [errW_none, errW_some]); have p163 : 0 ≤ (3 : Int) := zb13; have q163 : 3 < (t156.length : Int) := of_decide_eq_true zb5; obtain ⟨ad163, e163, hx163_0⟩ := Kd.at_string (Kd.R_reads' HO158.out).2.2 3 p163 q163; obtain rfl : ad159 = ad163 := (by injection e163); (try simp only [show (3 : Int).toNat = 3 from rfl, Nat.reduceMul, Nat.reduceEqDiff, Go.Addr.add, ↓reduceIte] at hx163_0); have qi163 : (3 < t156.length) = True := eq_true zb13; (try rw [show ((3 : Int)).toNat = 3 from rfl] at hx163_0); replace p163 := eq_true p163; replace q163 := eq_true q163) | ((with_reducible refine gate_callee (f := 89) rfl ?_); refine goesL_ (some 26) rfl rfl Tryz.func89 zb10 rfl #[.string (rdOf ByteArray.empty t156 3)] rfl zb3 ?_; (with_reducible refine (strconv_Atoi.calls (rdOf ByteArray.empty t156 3) t164 (some q166) _ ?side1 A7.out).mono ?_); (case side1 => exact Glob.below hGA.out zb4); rintro e w29 ⟨pv30, hpv30, rfl, hb⟩; refine ⟨_, rfl, ?_⟩; obtain ⟨tpv30, ppv30, rfl⟩ := ErrIs.some_ hpv30; have n0_ := Aside0.mk (Kd.R_below zb28 hb); have n1_ := Aside0.mk (blk_below (g := gb155) (o := .cells #[.string (⟨#[]⟩ : ByteArray), .string (⟨#[]⟩ : ByteArray), .int .i64 0, .int .i64 0] 120 (0, 0)) zb16 hb); have n2_ := Aside0.mk (below_step zb4 hb); clear HO158; clear BK155; clear HB; have HO158 := n0_; have BK155 := n1_; have HB := n2_; clear n0_ n1_ n2_; (try clear hb); (try clear hb2); (try clear hk); (try clear hi); (try simp only [errW_none, errW_some])))
        have n0_ := Aside0.mk (Kd.R_drew HO158.out)
        have n1_ := Aside0.mk (blk_drew BK155.out)
        have n2_ := Aside0.mk (below_drew1 HB.out)
        clear HO158
        clear BK155
        clear HB
        have HO158 := n0_
        have BK155 := n1_
        have HB := n2_
        clear n0_ n1_ n2_
        have p169 : 0 ≤ (0 : Int) := zb13
        have q169 : 0 < (t156.length : Int) := of_decide_eq_true zb5
        obtain ⟨ad169, e169, hx169_0⟩ := Kd.at_string (Kd.R_reads' HO158.out).2.2 0 p169 q169
        obtain rfl : ad159 = ad169 := (by injection e169)
        have qi169 : (0 < t156.length) = True := eq_true zb13
        (try rw [show ((0 : Int)).toNat = 0 from rfl] at hx169_0)
        (try rw [Addr.add_zero'] at hx169_0)
        replace p169 := eq_true p169
        replace q169 := eq_true q169
        have p170 : 0 ≤ (1 : Int) := zb13
        have q170 : 1 < (t156.length : Int) := of_decide_eq_true zb5
        obtain ⟨ad170, e170, hx170_0⟩ := Kd.at_string (Kd.R_reads' HO158.out).2.2 1 p170 q170
        obtain rfl : ad159 = ad170 := (by injection e170)
        (try simp only [show (1 : Int).toNat = 1 from rfl, Nat.reduceMul, Nat.reduceEqDiff, Go.Addr.add, ↓reduceIte] at hx170_0)
        have qi170 : (1 < t156.length) = True := eq_true zb13
        (try rw [show ((1 : Int)).toNat = 1 from rfl] at hx170_0)
        replace p170 := eq_true p170
        replace q170 := eq_true q170
        refine start_ (n := 17) (S := fun w' => w'.cell? ad159 = some (.string (rdOf ByteArray.empty t156 0)) ∧ w'.cell? ⟨ad159.block, ad159.off + 1, none⟩ = some (.string (rdOf ByteArray.empty t156 1))) (ds := []) #[false, false, false, false, false, false, false, false, false, false, false, false, false, false, false, false, false] zb10 rfl rfl ⟨hx169_0, hx170_0⟩ (fun hHeld => ?_); refine with_tabW manifest_row.tab6 manifest_row.bits6 (fun HT_ HW_ => ?_)
        generalize w29.drew = w31 at HO158 BK155 HB hx169_0 hx170_0 hHeld ⊢
        refine pus_ 0 (some 29) rfl rfl (any_of HT_.out zb10) (fun w' => by (go_simp; first | with_reducible rfl | (rw [if_neg zb0]))) ?_
        refine pus_ 1 (some 30) rfl rfl (any_of HT_.out zb10) (fun w' => by (go_simp; first | with_reducible rfl | (rw [if_neg zb0]))) ?_
        refine pus_ 3 (some 32) rfl rfl (any_of HT_.out zb10) (fun w' => by (go_simp; first | with_reducible rfl | (rw [if_neg zb0]))) ?_
        refine pus_ 4 (some 33) rfl rfl (any_of HT_.out zb10) (fun w' => by (go_simp; first | with_reducible rfl | (rw [if_neg zb0]))) ?_
        refine pus_ 6 (some 35) rfl rfl (any_of HT_.out zb10) (fun w' => by (go_simp; first | with_reducible rfl | (rw [if_neg zb0]))) ?_
        refine pus_ 7 (some 36) rfl rfl (any_of HT_.out zb10) (fun w' => by (go_simp; first | with_reducible rfl | (rw [if_neg zb0]))) ?_
        refine pus_ 9 (some 38) rfl rfl (any_of HT_.out zb10) (fun w' => by (go_simp; first | with_reducible rfl | (rw [if_neg zb0]))) ?_
        refine pus_ 10 (some 39) rfl rfl (any_of HT_.out zb10) (fun w' => by (go_simp; first | with_reducible rfl | (rw [if_neg zb0]))) ?_
        refine pus_ 11 (some 40) rfl rfl (any_of HT_.out zb10) (fun w' => by (go_simp; first | with_reducible rfl | (rw [if_neg zb0]))) ?_
        refine pus_ 12 (some 41) rfl rfl (any_of HT_.out zb10) (fun w' => by (go_simp; first | with_reducible rfl | (rw [if_neg zb0]))) ?_
        refine pus_ 13 (some 42) rfl rfl (any_of HT_.out zb10) (fun w' => by (go_simp; first | with_reducible rfl | (rw [if_neg zb0]))) ?_
        refine pus_ 14 (some 43) rfl rfl (any_of HT_.out zb10) (fun w' => by (go_simp; first | with_reducible rfl | (rw [if_neg zb0]))) ?_
        refine tas_ 2 (some 31) rfl rfl (take_ofW HT_.out HW_.out zb10) hHeld (fun w' ⟨s0, s1⟩ => by (go_simp; first | with_reducible rfl | (rw [if_neg zb0]))) ?_
        refine tas_ 5 (some 34) rfl rfl (take_ofW HT_.out HW_.out zb10) hHeld (fun w' ⟨s0, s1⟩ => by (go_simp; first | with_reducible rfl | (rw [if_neg zb0]))) ?_
        refine pus_ 8 (some 37) rfl rfl (any_of HT_.out zb10) (fun w' => by (go_simp; first | with_reducible rfl | (rw [if_neg zb0]))) ?_
        refine ons_ 15 none rfl rfl (one_of HT_.out zb10) zb25 (fun K hK => ?_)
        have hs32 : w31.cell? ⟨gb155, 0, none⟩ = some (.string (⟨#[]⟩ : ByteArray)) := (blk_cell BK155.out 0).trans rfl
        have hfs32 := blk_frozen BK155.out 0
        have hs33 : w31.cell? ⟨gb155, 1, none⟩ = some (.string (⟨#[]⟩ : ByteArray)) := (blk_cell BK155.out 1).trans rfl
        have hfs33 := blk_frozen BK155.out 1
        have hs34 : w31.cell? ⟨gb155, 2, none⟩ = some (.int .i64 0) := (blk_cell BK155.out 2).trans rfl
        have hfs34 := blk_frozen BK155.out 2
        have hs35 : w31.cell? ⟨gb155, 3, none⟩ = some (.int .i64 0) := (blk_cell BK155.out 3).trans rfl
        have hfs35 := blk_frozen BK155.out 3
        refine skip_ (w1 := ?_) (by rfl) rfl ?_ ?_
        rotate_left
        ·go_simp
         rfl
        refine hK.out _ _ ⟨((cell_far (p := ⟨gb155, _, none⟩) zb2 _).trans (((cell_far (p := ⟨gb155, _, none⟩) zb2 _).trans (((cell_far (p := ⟨gb155, _, none⟩) zb2 _).trans (((cell_far (p := ⟨gb155, _, none⟩) zb2 _).trans (hHeld.1)))))))), ((cell_far (p := ⟨gb155, _, none⟩) zb2 _).trans (((cell_far (p := ⟨gb155, _, none⟩) zb2 _).trans (((cell_far (p := ⟨gb155, _, none⟩) zb2 _).trans (((cell_far (p := ⟨gb155, _, none⟩) zb2 _).trans (hHeld.2))))))))⟩ (fun hHeld => ?_)
        clear hK K
        refine pus_ 16 (some 3) rfl rfl (any_of HT_.out zb10) (fun w' => by (go_simp; first | with_reducible rfl | (rw [if_neg zb0]))) ?_
        refine done_ (done_of HT_.out zb10) ?_
        try go_wp2
        refine bodyPost_ret (results_ct rfl _ _ gb155 120 #[.string (rdOf ByteArray.empty t156 0), .string (rdOf ByteArray.empty t156 1), .int .i64 t160, .int .i64 t164] (0, 0) _ rfl zb6 Tryz.underlying120 rfl zb10) rfl ?_
        exact ⟨zb15, zb4⟩
       ·rw [if_neg c23] at H
        exact absurd H zb35
      ·rw [if_neg c22] at H
       exact absurd H zb35
    ·rw [if_neg c6] at H
     exact absurd H zb35
   ·have H1 : (if 3 < (t156.length : Int) then ((strconv_Atoi.f (rdOf ByteArray.empty t156 3)).bind fun bt172 => (if bt172.2.isNone = true then (if 0 < (t156.length : Int) then (if 1 < (t156.length : Int) then (some (rdOf ByteArray.empty t156 0, rdOf ByteArray.empty t156 1, t160, bt172.1, false)) else (none)) else (none)) else (if 0 < (t156.length : Int) then (if 1 < (t156.length : Int) then (some (rdOf ByteArray.empty t156 0, rdOf ByteArray.empty t156 1, t160, bt172.1, false)) else (none)) else (none)))) else (none)) = some (r1, r2, r3, r4, r5) := by rw [if_neg (show ¬ (some q162).isNone = true by simp)] at H; exact H
    clear H
    have H := H1
    clear H1
    try simp only [errW_none, errW_some]
    by_cases c36 : 3 < (t156.length : Int)
    ·rw [if_pos c36] at H
     have c36b0 : decide (3 < (t156.length : Int)) = true := decide_eq_true c36
     have c36b1 : decide (3 < t156.length) = true := decide_eq_true zb13
     clear c36
     replace H := Option.bind_eq_some_iff.mp H
     obtain ⟨⟨t172, t173⟩, A370, H⟩ := H
     replace H : (if t173.isNone = true then (if 0 < (t156.length : Int) then (if 1 < (t156.length : Int) then (some (rdOf ByteArray.empty t156 0, rdOf ByteArray.empty t156 1, t160, t172, false)) else (none)) else (none)) else (if 0 < (t156.length : Int) then (if 1 < (t156.length : Int) then (some (rdOf ByteArray.empty t156 0, rdOf ByteArray.empty t156 1, t160, t172, false)) else (none)) else (none))) = some (r1, r2, r3, r4, r5) := H
     have A37 := Aside0.mk A370
     clear A370
     rcases t173 with _ | q174
     ·have H1 : (if 0 < (t156.length : Int) then (if 1 < (t156.length : Int) then (some (rdOf ByteArray.empty t156 0, rdOf ByteArray.empty t156 1, t160, t172, false)) else (none)) else (none)) = some (r1, r2, r3, r4, r5) := by rw [if_pos (show (none : Option Int).isNone = true by rfl)] at H; exact H
      clear H
      have H := H1
      clear H1
      try simp only [errW_none, errW_some]
      by_cases c38 : 0 < (t156.length : Int)
      ·rw [if_pos c38] at H
       have c38b0 : decide (0 < (t156.length : Int)) = true := decide_eq_true c38
       have c38b1 : decide (0 < t156.length) = true := decide_eq_true zb13
       clear c38
       by_cases c39 : 1 < (t156.length : Int)
       ·rw [if_pos c39] at H
        have c39b0 : decide (1 < (t156.length : Int)) = true := decide_eq_true c39
        have c39b1 : decide (1 < t156.length) = true := decide_eq_true zb13
        clear c39
        simp only [Option.some.injEq, Prod.mk.injEq] at H
        obtain ⟨rfl, rfl, rfl, rfl, rfl⟩ := H
        go_enter Tryz.func91, Tryz.ntmps91
        try go_wp2_with (first | ((with_reducible refine gate_dst (N := 2) rfl ?_); refine box_event ?hg (N := 2) ?hd (cs := #[.string (⟨#[]⟩ : ByteArray), .string (⟨#[]⟩ : ByteArray), .int .i64 0, .int .i64 0]) (t := 120) ?hr ?_; (case hd => rfl); (case hg => rfl); (case hr => first | (go_simp; done) | (go_simp; rfl)); intro gb155 hg w40 hbox hb; have n0_ := Aside0.mk (below_step zb1 hb); have n1_ := Aside0.mk (hbox); have n2_ := Aside0.mk ((by rw [hg]; exact (below_size zb1) : w.heap.size ≤ gb155)); have n3_ := Aside0.mk ((by rw [hg]; exact (below_size zb1) : w.heap.size ≤ gb155)); clear HB; have HB := n0_; have BK155 := n1_; have GW155 := n2_; have GE155 := n3_; clear n0_ n1_ n2_ n3_; clear hb hbox hg) | ((with_reducible refine gate_callee (f := 88) rfl ?_); refine goesL_ (some 10) rfl rfl Tryz.func88 zb10 rfl #[.string a0, .string (⟨#[32]⟩ : ByteArray)] rfl zb3 ?_; (with_reducible refine (strings_Split.calls a0 (⟨#[32]⟩ : ByteArray) t156 _ ?side1 A2.out).mono ?_); (case side1 => exact Glob.below hGA.out zb4); rintro e w41 ⟨v157, rfl, ho0, hb⟩; refine ⟨_, rfl, ?_⟩; have n0_ := Aside0.mk (Kd.R_lower ho0 (below_size zb4)); have n1_ := Aside0.mk (blk_below (g := gb155) (o := .cells #[.string (⟨#[]⟩ : ByteArray), .string (⟨#[]⟩ : ByteArray), .int .i64 0, .int .i64 0] 120 (0, 0)) zb16 hb); have n2_ := Aside0.mk (below_step zb4 hb); clear BK155; clear HB; have HO158 := n0_; have BK155 := n1_; have HB := n2_; clear n0_ n1_ n2_; (try clear hb); (try clear hb2); (try clear hk); (try clear hi); (try clear ho0); obtain ⟨Ao42, co42, eo42⟩ := Kd.R_slice HO158.out; subst eo42; have p159 : 0 ≤ (2 : Int) := zb13; have q159 : 2 < (t156.length : Int) := of_decide_eq_true zb5; obtain ⟨ad159, e159, hx159_0⟩ := Kd.at_string (Kd.R_reads' HO158.out).2.2 2 p159 q159; cases e159; (try simp only [show (2 : Int).toNat = 2 from rfl, Nat.reduceMul, Nat.reduceEqDiff, Go.Addr.add, ↓reduceIte] at hx159_0); have qi159 : (2 < t156.length) = True := eq_true zb13; (try rw [show ((2 : Int)).toNat = 2 from rfl] at hx159_0); replace p159 := eq_true p159; replace q159 := eq_true q159) | ((with_reducible refine gate_callee (f := 89) rfl ?_); refine goesL_ (some 19) rfl rfl Tryz.func89 zb10 rfl #[.string (rdOf ByteArray.empty t156 2)] rfl zb3 ?_; (with_reducible refine (strconv_Atoi.calls (rdOf ByteArray.empty t156 2) t160 (some q162) _ ?side1 A5.out).mono ?_); (case side1 => exact Glob.below hGA.out zb4); rintro e w43 ⟨pv44, hpv44, rfl, hb⟩; refine ⟨_, rfl, ?_⟩; obtain ⟨tpv44, ppv44, rfl⟩ := ErrIs.some_ hpv44; have n0_ := Aside0.mk (Kd.R_below zb28 hb); have n1_ := Aside0.mk (blk_below (g := gb155) (o := .cells #[.string (⟨#[]⟩ : ByteArray), .string (⟨#[]⟩ : ByteArray), .int .i64 0, .int .i64 0] 120 (0, 0)) zb16 hb); have n2_ := Aside0.mk (below_step zb4 hb); clear HO158; clear BK155; clear HB; have HO158 := n0_; have BK155 := n1_; have HB := n2_; clear n0_ n1_ n2_; (try clear hb); (try clear hb2); (try clear hk); (try clear hi); (try simp only [errW_none, errW_some]); have p171 : 0 ≤ (3 : Int) := zb13; have q171 : 3 < (t156.length : Int) := of_decide_eq_true zb5; obtain ⟨ad171, e171, hx171_0⟩ := Kd.at_string (Kd.R_reads' HO158.out).2.2 3 p171 q171; obtain rfl : ad159 = ad171 := (by injection e171); (try simp only [show (3 : Int).toNat = 3 from rfl, Nat.reduceMul, Nat.reduceEqDiff, Go.Addr.add, ↓reduceIte] at hx171_0); have qi171 : (3 < t156.length) = True := eq_true zb13; (try rw [show ((3 : Int)).toNat = 3 from rfl] at hx171_0); replace p171 := eq_true p171; replace q171 := eq_true q171) | ((with_reducible refine gate_callee (f := 89) rfl ?_); refine goesL_ (some 26) rfl rfl Tryz.func89 zb10 rfl #[.string (rdOf ByteArray.empty t156 3)] rfl zb3 ?_; (with_reducible refine (strconv_Atoi.calls (rdOf ByteArray.empty t156 3) t172 none _ ?side1 A37.out).mono ?_); (case side1 => exact Glob.below hGA.out zb4); rintro e w45 ⟨pv46, hpv46, rfl, hb⟩; refine ⟨_, rfl, ?_⟩; obtain rfl := ErrIs.none_ hpv46; have n0_ := Aside0.mk (Kd.R_below zb28 hb); have n1_ := Aside0.mk (blk_below (g := gb155) (o := .cells #[.string (⟨#[]⟩ : ByteArray), .string (⟨#[]⟩ : ByteArray), .int .i64 0, .int .i64 0] 120 (0, 0)) zb16 hb); have n2_ := Aside0.mk (below_step zb4 hb); clear HO158; clear BK155; clear HB; have HO158 := n0_; have BK155 := n1_; have HB := n2_; clear n0_ n1_ n2_; (try clear hb); (try clear hb2); (try clear hk); (try clear hi); (try simp only [errW_none, errW_some])))
        have n0_ := Aside0.mk (Kd.R_drew HO158.out)
        have n1_ := Aside0.mk (blk_drew BK155.out)
        have n2_ := Aside0.mk (below_drew1 HB.out)
        clear HO158
        clear BK155
        clear HB
        have HO158 := n0_
        have BK155 := n1_
        have HB := n2_
        clear n0_ n1_ n2_
        have p175 : 0 ≤ (0 : Int) := zb13
        have q175 : 0 < (t156.length : Int) := of_decide_eq_true zb5
        obtain ⟨ad175, e175, hx175_0⟩ := Kd.at_string (Kd.R_reads' HO158.out).2.2 0 p175 q175
        obtain rfl : ad159 = ad175 := (by injection e175)
        have qi175 : (0 < t156.length) = True := eq_true zb13
        (try rw [show ((0 : Int)).toNat = 0 from rfl] at hx175_0)
        (try rw [Addr.add_zero'] at hx175_0)
        replace p175 := eq_true p175
        replace q175 := eq_true q175
        have p176 : 0 ≤ (1 : Int) := zb13
        have q176 : 1 < (t156.length : Int) := of_decide_eq_true zb5
        obtain ⟨ad176, e176, hx176_0⟩ := Kd.at_string (Kd.R_reads' HO158.out).2.2 1 p176 q176
        obtain rfl : ad159 = ad176 := (by injection e176)
        (try simp only [show (1 : Int).toNat = 1 from rfl, Nat.reduceMul, Nat.reduceEqDiff, Go.Addr.add, ↓reduceIte] at hx176_0)
        have qi176 : (1 < t156.length) = True := eq_true zb13
        (try rw [show ((1 : Int)).toNat = 1 from rfl] at hx176_0)
        replace p176 := eq_true p176
        replace q176 := eq_true q176
        refine start_ (n := 17) (S := fun w' => w'.cell? ad159 = some (.string (rdOf ByteArray.empty t156 0)) ∧ w'.cell? ⟨ad159.block, ad159.off + 1, none⟩ = some (.string (rdOf ByteArray.empty t156 1))) (ds := []) #[false, false, false, false, false, false, false, false, false, false, false, false, false, false, false, false, false] zb10 rfl rfl ⟨hx175_0, hx176_0⟩ (fun hHeld => ?_); refine with_tabW manifest_row.tab6 manifest_row.bits6 (fun HT_ HW_ => ?_)
        generalize w45.drew = w47 at HO158 BK155 HB hx175_0 hx176_0 hHeld ⊢
        refine pus_ 0 (some 29) rfl rfl (any_of HT_.out zb10) (fun w' => by (go_simp; first | with_reducible rfl | (rw [if_neg zb0]))) ?_
        refine pus_ 1 (some 30) rfl rfl (any_of HT_.out zb10) (fun w' => by (go_simp; first | with_reducible rfl | (rw [if_neg zb0]))) ?_
        refine pus_ 3 (some 32) rfl rfl (any_of HT_.out zb10) (fun w' => by (go_simp; first | with_reducible rfl | (rw [if_neg zb0]))) ?_
        refine pus_ 4 (some 33) rfl rfl (any_of HT_.out zb10) (fun w' => by (go_simp; first | with_reducible rfl | (rw [if_neg zb0]))) ?_
        refine pus_ 6 (some 35) rfl rfl (any_of HT_.out zb10) (fun w' => by (go_simp; first | with_reducible rfl | (rw [if_neg zb0]))) ?_
        refine pus_ 7 (some 36) rfl rfl (any_of HT_.out zb10) (fun w' => by (go_simp; first | with_reducible rfl | (rw [if_neg zb0]))) ?_
        refine pus_ 9 (some 38) rfl rfl (any_of HT_.out zb10) (fun w' => by (go_simp; first | with_reducible rfl | (rw [if_neg zb0]))) ?_
        refine pus_ 10 (some 39) rfl rfl (any_of HT_.out zb10) (fun w' => by (go_simp; first | with_reducible rfl | (rw [if_neg zb0]))) ?_
        refine pus_ 11 (some 40) rfl rfl (any_of HT_.out zb10) (fun w' => by (go_simp; first | with_reducible rfl | (rw [if_neg zb0]))) ?_
        refine pure_ (i := 12) (N := some 41) (v := undef) (a' := ?_) #[true, true, false, true, true, false, true, true, false, true, true, true, true, false, false, false, false] rfl rfl (any_of HT_.out zb10) (fun _ _ _ h => h) (Or.inr ⟨by rfl, rfl⟩) ?_ ?_
        rotate_left
        ·simp only [Act.put, List.setIfInBounds_toArray, List.set_cons_zero, List.set_cons_succ, i64_w, i32_w]
         rfl
        refine pure_ (i := 13) (N := some 42) (v := undef) (a' := ?_) #[true, true, false, true, true, false, true, true, false, true, true, true, true, true, false, false, false] rfl rfl (any_of HT_.out zb10) (fun _ _ _ h => h) (Or.inr ⟨by rfl, rfl⟩) ?_ ?_
        rotate_left
        ·simp only [Act.put, List.setIfInBounds_toArray, List.set_cons_zero, List.set_cons_succ, i64_w, i32_w]
         rfl
        refine pus_ 14 (some 43) rfl rfl (any_of HT_.out zb10) (fun w' => by (go_simp; first | with_reducible rfl | (rw [if_neg zb0]))) ?_
        refine tas_ 2 (some 31) rfl rfl (take_ofW HT_.out HW_.out zb10) hHeld (fun w' ⟨s0, s1⟩ => by (go_simp; first | with_reducible rfl | (rw [if_neg zb0]))) ?_
        refine tas_ 5 (some 34) rfl rfl (take_ofW HT_.out HW_.out zb10) hHeld (fun w' ⟨s0, s1⟩ => by (go_simp; first | with_reducible rfl | (rw [if_neg zb0]))) ?_
        refine pus_ 8 (some 37) rfl rfl (any_of HT_.out zb10) (fun w' => by (go_simp; first | with_reducible rfl | (rw [if_neg zb0]))) ?_
        refine ons_ 15 none rfl rfl (one_of HT_.out zb10) zb25 (fun K hK => ?_)
        have hs48 : w47.cell? ⟨gb155, 0, none⟩ = some (.string (⟨#[]⟩ : ByteArray)) := (blk_cell BK155.out 0).trans rfl
        have hfs48 := blk_frozen BK155.out 0
        have hs49 : w47.cell? ⟨gb155, 1, none⟩ = some (.string (⟨#[]⟩ : ByteArray)) := (blk_cell BK155.out 1).trans rfl
        have hfs49 := blk_frozen BK155.out 1
        have hs50 : w47.cell? ⟨gb155, 2, none⟩ = some (.int .i64 0) := (blk_cell BK155.out 2).trans rfl
        have hfs50 := blk_frozen BK155.out 2
        have hs51 : w47.cell? ⟨gb155, 3, none⟩ = some (.int .i64 0) := (blk_cell BK155.out 3).trans rfl
        have hfs51 := blk_frozen BK155.out 3
        refine skip_ (w1 := ?_) (by rfl) rfl ?_ ?_
        rotate_left
        ·go_simp
         rfl
        refine hK.out _ _ ⟨((cell_far (p := ⟨gb155, _, none⟩) zb2 _).trans (((cell_far (p := ⟨gb155, _, none⟩) zb2 _).trans (((cell_far (p := ⟨gb155, _, none⟩) zb2 _).trans (((cell_far (p := ⟨gb155, _, none⟩) zb2 _).trans (hHeld.1)))))))), ((cell_far (p := ⟨gb155, _, none⟩) zb2 _).trans (((cell_far (p := ⟨gb155, _, none⟩) zb2 _).trans (((cell_far (p := ⟨gb155, _, none⟩) zb2 _).trans (((cell_far (p := ⟨gb155, _, none⟩) zb2 _).trans (hHeld.2))))))))⟩ (fun hHeld => ?_)
        clear hK K
        refine pus_ 16 (some 3) rfl rfl (any_of HT_.out zb10) (fun w' => by (go_simp; first | with_reducible rfl | (rw [if_neg zb0]))) ?_
        refine done_ (done_of HT_.out zb10) ?_
        try go_wp2
        refine bodyPost_ret (results_ct rfl _ _ gb155 120 #[.string (rdOf ByteArray.empty t156 0), .string (rdOf ByteArray.empty t156 1), .int .i64 t160, .int .i64 t172] (0, 0) _ rfl zb6 Tryz.underlying120 rfl zb10) rfl ?_
        exact ⟨zb15, zb4⟩
       ·rw [if_neg c39] at H
        exact absurd H zb35
      ·rw [if_neg c38] at H
       exact absurd H zb35
     ·have H1 : (if 0 < (t156.length : Int) then (if 1 < (t156.length : Int) then (some (rdOf ByteArray.empty t156 0, rdOf ByteArray.empty t156 1, t160, t172, false)) else (none)) else (none)) = some (r1, r2, r3, r4, r5) := by rw [if_neg (show ¬ (some q174).isNone = true by simp)] at H; exact H
      clear H
      have H := H1
      clear H1
      try simp only [errW_none, errW_some]
      by_cases c52 : 0 < (t156.length : Int)
      ·rw [if_pos c52] at H
       have c52b0 : decide (0 < (t156.length : Int)) = true := decide_eq_true c52
       have c52b1 : decide (0 < t156.length) = true := decide_eq_true zb13
       clear c52
       by_cases c53 : 1 < (t156.length : Int)
       ·rw [if_pos c53] at H
        have c53b0 : decide (1 < (t156.length : Int)) = true := decide_eq_true c53
        have c53b1 : decide (1 < t156.length) = true := decide_eq_true zb13
        clear c53
        simp only [Option.some.injEq, Prod.mk.injEq] at H
        obtain ⟨rfl, rfl, rfl, rfl, rfl⟩ := H
        go_enter Tryz.func91, Tryz.ntmps91
        try go_wp2_with (first | ((with_reducible refine gate_dst (N := 2) rfl ?_); refine box_event ?hg (N := 2) ?hd (cs := #[.string (⟨#[]⟩ : ByteArray), .string (⟨#[]⟩ : ByteArray), .int .i64 0, .int .i64 0]) (t := 120) ?hr ?_; (case hd => rfl); (case hg => rfl); (case hr => first | (go_simp; done) | (go_simp; rfl)); intro gb155 hg w54 hbox hb; have n0_ := Aside0.mk (below_step zb1 hb); have n1_ := Aside0.mk (hbox); have n2_ := Aside0.mk ((by rw [hg]; exact (below_size zb1) : w.heap.size ≤ gb155)); have n3_ := Aside0.mk ((by rw [hg]; exact (below_size zb1) : w.heap.size ≤ gb155)); clear HB; have HB := n0_; have BK155 := n1_; have GW155 := n2_; have GE155 := n3_; clear n0_ n1_ n2_ n3_; clear hb hbox hg) | ((with_reducible refine gate_callee (f := 88) rfl ?_); refine goesL_ (some 10) rfl rfl Tryz.func88 zb10 rfl #[.string a0, .string (⟨#[32]⟩ : ByteArray)] rfl zb3 ?_; (with_reducible refine (strings_Split.calls a0 (⟨#[32]⟩ : ByteArray) t156 _ ?side1 A2.out).mono ?_); (case side1 => exact Glob.below hGA.out zb4); rintro e w55 ⟨v157, rfl, ho0, hb⟩; refine ⟨_, rfl, ?_⟩; have n0_ := Aside0.mk (Kd.R_lower ho0 (below_size zb4)); have n1_ := Aside0.mk (blk_below (g := gb155) (o := .cells #[.string (⟨#[]⟩ : ByteArray), .string (⟨#[]⟩ : ByteArray), .int .i64 0, .int .i64 0] 120 (0, 0)) zb16 hb); have n2_ := Aside0.mk (below_step zb4 hb); clear BK155; clear HB; have HO158 := n0_; have BK155 := n1_; have HB := n2_; clear n0_ n1_ n2_; (try clear hb); (try clear hb2); (try clear hk); (try clear hi); (try clear ho0); obtain ⟨Ao56, co56, eo56⟩ := Kd.R_slice HO158.out; subst eo56; have p159 : 0 ≤ (2 : Int) := zb13; have q159 : 2 < (t156.length : Int) := of_decide_eq_true zb5; obtain ⟨ad159, e159, hx159_0⟩ := Kd.at_string (Kd.R_reads' HO158.out).2.2 2 p159 q159; cases e159; (try simp only [show (2 : Int).toNat = 2 from rfl, Nat.reduceMul, Nat.reduceEqDiff, Go.Addr.add, ↓reduceIte] at hx159_0); have qi159 : (2 < t156.length) = True := eq_true zb13; (try rw [show ((2 : Int)).toNat = 2 from rfl] at hx159_0); replace p159 := eq_true p159; replace q159 := eq_true q159) | ((with_reducible refine gate_callee (f := 89) rfl ?_); refine goesL_ (some 19) rfl rfl Tryz.func89 zb10 rfl #[.string (rdOf ByteArray.empty t156 2)] rfl zb3 ?_; (with_reducible refine (strconv_Atoi.calls (rdOf ByteArray.empty t156 2) t160 (some q162) _ ?side1 A5.out).mono ?_); (case side1 => exact Glob.below hGA.out zb4); rintro e w57 ⟨pv58, hpv58, rfl, hb⟩; refine ⟨_, rfl, ?_⟩; obtain ⟨tpv58, ppv58, rfl⟩ := ErrIs.some_ hpv58; have n0_ := Aside0.mk (Kd.R_below zb28 hb); have n1_ := Aside0.mk (blk_below (g := gb155) (o := .cells #[.string (⟨#[]⟩ : ByteArray), .string (⟨#[]⟩ : ByteArray), .int .i64 0, .int .i64 0] 120 (0, 0)) zb16 hb); have n2_ := Aside0.mk (below_step zb4 hb); clear HO158; clear BK155; clear HB; have HO158 := n0_; have BK155 := n1_; have HB := n2_; clear n0_ n1_ n2_; (try clear hb); (try clear hb2); (try clear hk); (try clear hi); (try simp only [errW_none, errW_some]); have p171 : 0 ≤ (3 : Int) := zb13; have q171 : 3 < (t156.length : Int) := of_decide_eq_true zb5; obtain ⟨ad171, e171, hx171_0⟩ := Kd.at_string (Kd.R_reads' HO158.out).2.2 3 p171 q171; obtain rfl : ad159 = ad171 := (by injection e171); (try simp only [show (3 : Int).toNat = 3 from rfl, Nat.reduceMul, Nat.reduceEqDiff, Go.Addr.add, ↓reduceIte] at hx171_0); have qi171 : (3 < t156.length) = True := eq_true zb13; (try rw [show ((3 : Int)).toNat = 3 from rfl] at hx171_0); replace p171 := eq_true p171; replace q171 := eq_true q171) | ((with_reducible refine gate_callee (f := 89) rfl ?_); refine goesL_ (some 26) rfl rfl Tryz.func89 zb10 rfl #[.string (rdOf ByteArray.empty t156 3)] rfl zb3 ?_; (with_reducible refine (strconv_Atoi.calls (rdOf ByteArray.empty t156 3) t172 (some q174) _ ?side1 A37.out).mono ?_); (case side1 => exact Glob.below hGA.out zb4); rintro e w59 ⟨pv60, hpv60, rfl, hb⟩; refine ⟨_, rfl, ?_⟩; obtain ⟨tpv60, ppv60, rfl⟩ := ErrIs.some_ hpv60; have n0_ := Aside0.mk (Kd.R_below zb28 hb); have n1_ := Aside0.mk (blk_below (g := gb155) (o := .cells #[.string (⟨#[]⟩ : ByteArray), .string (⟨#[]⟩ : ByteArray), .int .i64 0, .int .i64 0] 120 (0, 0)) zb16 hb); have n2_ := Aside0.mk (below_step zb4 hb); clear HO158; clear BK155; clear HB; have HO158 := n0_; have BK155 := n1_; have HB := n2_; clear n0_ n1_ n2_; (try clear hb); (try clear hb2); (try clear hk); (try clear hi); (try simp only [errW_none, errW_some])))
        have n0_ := Aside0.mk (Kd.R_drew HO158.out)
        have n1_ := Aside0.mk (blk_drew BK155.out)
        have n2_ := Aside0.mk (below_drew1 HB.out)
        clear HO158
        clear BK155
        clear HB
        have HO158 := n0_
        have BK155 := n1_
        have HB := n2_
        clear n0_ n1_ n2_
        have p177 : 0 ≤ (0 : Int) := zb13
        have q177 : 0 < (t156.length : Int) := of_decide_eq_true zb5
        obtain ⟨ad177, e177, hx177_0⟩ := Kd.at_string (Kd.R_reads' HO158.out).2.2 0 p177 q177
        obtain rfl : ad159 = ad177 := (by injection e177)
        have qi177 : (0 < t156.length) = True := eq_true zb13
        (try rw [show ((0 : Int)).toNat = 0 from rfl] at hx177_0)
        (try rw [Addr.add_zero'] at hx177_0)
        replace p177 := eq_true p177
        replace q177 := eq_true q177
        have p178 : 0 ≤ (1 : Int) := zb13
        have q178 : 1 < (t156.length : Int) := of_decide_eq_true zb5
        obtain ⟨ad178, e178, hx178_0⟩ := Kd.at_string (Kd.R_reads' HO158.out).2.2 1 p178 q178
        obtain rfl : ad159 = ad178 := (by injection e178)
        (try simp only [show (1 : Int).toNat = 1 from rfl, Nat.reduceMul, Nat.reduceEqDiff, Go.Addr.add, ↓reduceIte] at hx178_0)
        have qi178 : (1 < t156.length) = True := eq_true zb13
        (try rw [show ((1 : Int)).toNat = 1 from rfl] at hx178_0)
        replace p178 := eq_true p178
        replace q178 := eq_true q178
        refine start_ (n := 17) (S := fun w' => w'.cell? ad159 = some (.string (rdOf ByteArray.empty t156 0)) ∧ w'.cell? ⟨ad159.block, ad159.off + 1, none⟩ = some (.string (rdOf ByteArray.empty t156 1))) (ds := []) #[false, false, false, false, false, false, false, false, false, false, false, false, false, false, false, false, false] zb10 rfl rfl ⟨hx177_0, hx178_0⟩ (fun hHeld => ?_); refine with_tabW manifest_row.tab6 manifest_row.bits6 (fun HT_ HW_ => ?_)
        generalize w59.drew = w61 at HO158 BK155 HB hx177_0 hx178_0 hHeld ⊢
        refine pus_ 0 (some 29) rfl rfl (any_of HT_.out zb10) (fun w' => by (go_simp; first | with_reducible rfl | (rw [if_neg zb0]))) ?_
        refine pus_ 1 (some 30) rfl rfl (any_of HT_.out zb10) (fun w' => by (go_simp; first | with_reducible rfl | (rw [if_neg zb0]))) ?_
        refine pus_ 3 (some 32) rfl rfl (any_of HT_.out zb10) (fun w' => by (go_simp; first | with_reducible rfl | (rw [if_neg zb0]))) ?_
        refine pus_ 4 (some 33) rfl rfl (any_of HT_.out zb10) (fun w' => by (go_simp; first | with_reducible rfl | (rw [if_neg zb0]))) ?_
        refine pus_ 6 (some 35) rfl rfl (any_of HT_.out zb10) (fun w' => by (go_simp; first | with_reducible rfl | (rw [if_neg zb0]))) ?_
        refine pus_ 7 (some 36) rfl rfl (any_of HT_.out zb10) (fun w' => by (go_simp; first | with_reducible rfl | (rw [if_neg zb0]))) ?_
        refine pus_ 9 (some 38) rfl rfl (any_of HT_.out zb10) (fun w' => by (go_simp; first | with_reducible rfl | (rw [if_neg zb0]))) ?_
        refine pus_ 10 (some 39) rfl rfl (any_of HT_.out zb10) (fun w' => by (go_simp; first | with_reducible rfl | (rw [if_neg zb0]))) ?_
        refine pus_ 11 (some 40) rfl rfl (any_of HT_.out zb10) (fun w' => by (go_simp; first | with_reducible rfl | (rw [if_neg zb0]))) ?_
        refine pure_ (i := 12) (N := some 41) (v := undef) (a' := ?_) #[true, true, false, true, true, false, true, true, false, true, true, true, true, false, false, false, false] rfl rfl (any_of HT_.out zb10) (fun _ _ _ h => h) (Or.inr ⟨by rfl, rfl⟩) ?_ ?_
        rotate_left
        ·simp only [Act.put, List.setIfInBounds_toArray, List.set_cons_zero, List.set_cons_succ, i64_w, i32_w]
         rfl
        refine pure_ (i := 13) (N := some 42) (v := undef) (a' := ?_) #[true, true, false, true, true, false, true, true, false, true, true, true, true, true, false, false, false] rfl rfl (any_of HT_.out zb10) (fun _ _ _ h => h) (Or.inr ⟨by rfl, rfl⟩) ?_ ?_
        rotate_left
        ·simp only [Act.put, List.setIfInBounds_toArray, List.set_cons_zero, List.set_cons_succ, i64_w, i32_w]
         rfl
        refine pus_ 14 (some 43) rfl rfl (any_of HT_.out zb10) (fun w' => by (go_simp; first | with_reducible rfl | (rw [if_neg zb0]))) ?_
        refine tas_ 2 (some 31) rfl rfl (take_ofW HT_.out HW_.out zb10) hHeld (fun w' ⟨s0, s1⟩ => by (go_simp; first | with_reducible rfl | (rw [if_neg zb0]))) ?_
        refine tas_ 5 (some 34) rfl rfl (take_ofW HT_.out HW_.out zb10) hHeld (fun w' ⟨s0, s1⟩ => by (go_simp; first | with_reducible rfl | (rw [if_neg zb0]))) ?_
        refine pus_ 8 (some 37) rfl rfl (any_of HT_.out zb10) (fun w' => by (go_simp; first | with_reducible rfl | (rw [if_neg zb0]))) ?_
        refine ons_ 15 none rfl rfl (one_of HT_.out zb10) zb25 (fun K hK => ?_)
        have hs62 : w61.cell? ⟨gb155, 0, none⟩ = some (.string (⟨#[]⟩ : ByteArray)) := (blk_cell BK155.out 0).trans rfl
        have hfs62 := blk_frozen BK155.out 0
        have hs63 : w61.cell? ⟨gb155, 1, none⟩ = some (.string (⟨#[]⟩ : ByteArray)) := (blk_cell BK155.out 1).trans rfl
        have hfs63 := blk_frozen BK155.out 1
        have hs64 : w61.cell? ⟨gb155, 2, none⟩ = some (.int .i64 0) := (blk_cell BK155.out 2).trans rfl
        have hfs64 := blk_frozen BK155.out 2
        have hs65 : w61.cell? ⟨gb155, 3, none⟩ = some (.int .i64 0) := (blk_cell BK155.out 3).trans rfl
        have hfs65 := blk_frozen BK155.out 3
        refine skip_ (w1 := ?_) (by rfl) rfl ?_ ?_
        rotate_left
        ·go_simp
         rfl
        refine hK.out _ _ ⟨((cell_far (p := ⟨gb155, _, none⟩) zb2 _).trans (((cell_far (p := ⟨gb155, _, none⟩) zb2 _).trans (((cell_far (p := ⟨gb155, _, none⟩) zb2 _).trans (((cell_far (p := ⟨gb155, _, none⟩) zb2 _).trans (hHeld.1)))))))), ((cell_far (p := ⟨gb155, _, none⟩) zb2 _).trans (((cell_far (p := ⟨gb155, _, none⟩) zb2 _).trans (((cell_far (p := ⟨gb155, _, none⟩) zb2 _).trans (((cell_far (p := ⟨gb155, _, none⟩) zb2 _).trans (hHeld.2))))))))⟩ (fun hHeld => ?_)
        clear hK K
        refine pus_ 16 (some 3) rfl rfl (any_of HT_.out zb10) (fun w' => by (go_simp; first | with_reducible rfl | (rw [if_neg zb0]))) ?_
        refine done_ (done_of HT_.out zb10) ?_
        try go_wp2
        refine bodyPost_ret (results_ct rfl _ _ gb155 120 #[.string (rdOf ByteArray.empty t156 0), .string (rdOf ByteArray.empty t156 1), .int .i64 t160, .int .i64 t172] (0, 0) _ rfl zb6 Tryz.underlying120 rfl zb10) rfl ?_
        exact ⟨zb15, zb4⟩
       ·rw [if_neg c53] at H
        exact absurd H zb35
      ·rw [if_neg c52] at H
       exact absurd H zb35
    ·rw [if_neg c36] at H
     exact absurd H zb35
  ·rw [if_neg c4] at H
   exact absurd H zb35
 ·rw [if_neg c3] at H
  have c3b0 : ((t156.length : Int) == 4) = false := beq_eq_false_iff_ne.mpr c3
  have c3b1 : ((t156.length : Int) != 4) = true := bne_iff_ne.mpr c3
  simp only [Option.some.injEq, Prod.mk.injEq] at H
  obtain ⟨rfl, rfl, rfl, rfl, rfl⟩ := H
  go_enter Tryz.func91, Tryz.ntmps91
  go_wp2_with (first | ((with_reducible refine gate_dst (N := 2) rfl ?_); refine box_event ?hg (N := 2) ?hd (cs := #[.string (⟨#[]⟩ : ByteArray), .string (⟨#[]⟩ : ByteArray), .int .i64 0, .int .i64 0]) (t := 120) ?hr ?_; (case hd => rfl); (case hg => rfl); (case hr => first | (go_simp; done) | (go_simp; rfl)); intro gb155 hg w66 hbox hb; have n0_ := Aside0.mk (below_step zb1 hb); have n1_ := Aside0.mk (hbox); have n2_ := Aside0.mk ((by rw [hg]; exact (below_size zb1) : w.heap.size ≤ gb155)); have n3_ := Aside0.mk ((by rw [hg]; exact (below_size zb1) : w.heap.size ≤ gb155)); clear HB; have HB := n0_; have BK155 := n1_; have GW155 := n2_; have GE155 := n3_; clear n0_ n1_ n2_ n3_; clear hb hbox hg) | ((with_reducible refine gate_callee (f := 88) rfl ?_); refine goesL_ (some 10) rfl rfl Tryz.func88 zb10 rfl #[.string a0, .string (⟨#[32]⟩ : ByteArray)] rfl zb3 ?_; (with_reducible refine (strings_Split.calls a0 (⟨#[32]⟩ : ByteArray) t156 _ ?side1 A2.out).mono ?_); (case side1 => exact Glob.below hGA.out zb4); rintro e w67 ⟨v157, rfl, ho0, hb⟩; refine ⟨_, rfl, ?_⟩; have n0_ := Aside0.mk (Kd.R_lower ho0 (below_size zb4)); have n1_ := Aside0.mk (blk_below (g := gb155) (o := .cells #[.string (⟨#[]⟩ : ByteArray), .string (⟨#[]⟩ : ByteArray), .int .i64 0, .int .i64 0] 120 (0, 0)) zb16 hb); have n2_ := Aside0.mk (below_step zb4 hb); clear BK155; clear HB; have HO158 := n0_; have BK155 := n1_; have HB := n2_; clear n0_ n1_ n2_; (try clear hb); (try clear hb2); (try clear hk); (try clear hi); (try clear ho0); obtain ⟨Ao68, co68, eo68⟩ := Kd.R_slice HO158.out; subst eo68; have hcz69_0 : w67.cell? ⟨gb155, 0, none⟩ = some (.string (⟨#[]⟩ : ByteArray)) := (blk_cell BK155.out 0).trans rfl; have hcz69_1 : w67.cell? ⟨gb155, 1, none⟩ = some (.string (⟨#[]⟩ : ByteArray)) := (blk_cell BK155.out 1).trans rfl; have hcz69_2 : w67.cell? ⟨gb155, 2, none⟩ = some (.int .i64 0) := (blk_cell BK155.out 2).trans rfl; have hcz69_3 : w67.cell? ⟨gb155, 3, none⟩ = some (.int .i64 0) := (blk_cell BK155.out 3).trans rfl; have hfz69_0 := blk_frozen BK155.out 0; have hfz69_1 := blk_frozen BK155.out 1; have hfz69_2 := blk_frozen BK155.out 2; have hfz69_3 := blk_frozen BK155.out 3))
  refine bodyPost_ret (results_ct rfl _ _ gb155 120 #[.string (⟨#[]⟩ : ByteArray), .string (⟨#[]⟩ : ByteArray), .int .i64 0, .int .i64 0] (0, 0) _ rfl (by (with_reducible repeat (first | refine blk_drewN ?_ _ | refine blk_drew ?_ | refine blk_alloc ?_ _)); refine blk_put (cs := #[.string (⟨#[]⟩ : ByteArray), .string (⟨#[]⟩ : ByteArray), .int .i64 0, .int .i64 0]) ?_ 3 _ rfl; (with_reducible repeat (first | refine blk_drewN ?_ _ | refine blk_drew ?_ | refine blk_alloc ?_ _)); refine blk_put (cs := #[.string (⟨#[]⟩ : ByteArray), .string (⟨#[]⟩ : ByteArray), .int .i64 0, .int .i64 0]) ?_ 2 _ rfl; (with_reducible repeat (first | refine blk_drewN ?_ _ | refine blk_drew ?_ | refine blk_alloc ?_ _)); refine blk_put (cs := #[.string (⟨#[]⟩ : ByteArray), .string (⟨#[]⟩ : ByteArray), .int .i64 0, .int .i64 0]) ?_ 1 _ rfl; (with_reducible repeat (first | refine blk_drewN ?_ _ | refine blk_drew ?_ | refine blk_alloc ?_ _)); refine blk_put (cs := #[.string (⟨#[]⟩ : ByteArray), .string (⟨#[]⟩ : ByteArray), .int .i64 0, .int .i64 0]) ?_ 0 _ rfl; (with_reducible repeat (first | refine blk_drewN ?_ _ | refine blk_drew ?_ | refine blk_alloc ?_ _)); exact BK155.out) Tryz.underlying120 rfl zb10) rfl ?_
  exact ⟨zb15, zb4⟩
def manifest_Parse.l0 : Nat → ByteArray → Int → List (S120) → Option Int → List ByteArray → Int → Int → Option (Int × (List (S120)) × Int)
  | 0, _, _, _, _, _, _, _ => none
  | k + 1, x0, x2, x3, x6, x30, x31, x32 => if x32 < x31 then (if 0 ≤ x32 then (if x32 < (x30.length : Int) then ((manifest_row.f (rdOf ByteArray.empty x30 x32)).bind fun bt193 => (if bt193.2.2.2.2 = true then (if x3.length < 2932031007402 then (manifest_Parse.l0 k x0 x2 (x3 ++ [(⟨bt193.1, bt193.2.1, bt193.2.2.1, bt193.2.2.2.1⟩ : S120)]) x6 x30 x31 (wrap64 (x32 + 1))) else (none)) else (some (0, ([] : List (S120)), 30)))) else (none)) else (none)) else ((manifest_Print.f k x2 x3).bind fun bt202 => (if x6.isNone = true then (if bt202.2 = 0 then (if bt202.1.toList = x0.toList then (some (x2, x3, 0)) else (some (0, ([] : List (S120)), 30))) else (some (0, ([] : List (S120)), 30))) else (some (0, ([] : List (S120)), 30))))
def manifest_Parse.f (k : Nat) (a0 : ByteArray) : Option (Int × (List (S120)) × Int) := (strings_Split.f a0 (⟨#[10]⟩ : ByteArray)).bind fun t179 => (if (t179.length : Int) < 3 then (some (0, ([] : List (S120)), 30)) else (if 0 < (t179.length : Int) then ((strings_TrimPrefix.f (rdOf ByteArray.empty t179 0) (⟨#[103, 101, 110, 101, 114, 97, 116, 105, 111, 110, 32]⟩ : ByteArray)).bind fun t183 => ((strconv_Atoi.f t183).bind fun bt184 => (if bt184.2.isNone = true then (if 1 ≤ (wrap64 ((t179.length : Int) - 2)) then (if (wrap64 ((t179.length : Int) - 2)) ≤ (t179.length : Int) then ((some ((t179.take ((wrap64 ((t179.length : Int) - 2)) : Int).toNat).drop 1 : List ByteArray)).bind fun y187 => (manifest_Parse.l0 k a0 bt184.1 ([] : List (S120)) none y187 (y187.length : Int) 0)) else (none)) else (none)) else (if 1 ≤ (wrap64 ((t179.length : Int) - 2)) then (if (wrap64 ((t179.length : Int) - 2)) ≤ (t179.length : Int) then ((some ((t179.take ((wrap64 ((t179.length : Int) - 2)) : Int).toNat).drop 1 : List ByteArray)).bind fun y205 => (manifest_Parse.l0 k a0 bt184.1 ([] : List (S120)) (some (bt184.2.getD 0)) y205 (y205.length : Int) 0)) else (none)) else (none))))) else (none)))
set_option maxHeartbeats 8000000 in
set_option maxRecDepth 100000 in
theorem manifest_Parse.calls (k : Nat) (a0 : ByteArray) (r1 : Int) (r2 : List (S120)) (r3 : Int) (w : World) (hG : Glob w) (h : manifest_Parse.f k a0 = some (r1, r2, r3)) :
  Calls Tryz.prog 55 #[.string a0] w fun e w' => ∃ v1_ : Value, e = .returned (.tuple #[.int .i64 r1, v1_, .int .i64 r3]) ∧ Kd.R k120 120 w' w.heap.size (fun _ => True) v1_ r2 ∧ Below w.heap.size w w' := by
 have hu120 := Tryz.underlying120
 have hu136 := Tryz.underlying136
 have HB := Aside0.mk (Below.refl w.heap.size w)
 have hGA := Aside0.mk hG
 clear hG
 have H : ((strings_Split.f a0 (⟨#[10]⟩ : ByteArray)).bind fun t179 => (if (t179.length : Int) < 3 then (some (0, ([] : List (S120)), 30)) else (if 0 < (t179.length : Int) then ((strings_TrimPrefix.f (rdOf ByteArray.empty t179 0) (⟨#[103, 101, 110, 101, 114, 97, 116, 105, 111, 110, 32]⟩ : ByteArray)).bind fun t183 => ((strconv_Atoi.f t183).bind fun bt184 => (if bt184.2.isNone = true then (if 1 ≤ (wrap64 ((t179.length : Int) - 2)) then (if (wrap64 ((t179.length : Int) - 2)) ≤ (t179.length : Int) then ((some ((t179.take ((wrap64 ((t179.length : Int) - 2)) : Int).toNat).drop 1 : List ByteArray)).bind fun y187 => (manifest_Parse.l0 k a0 bt184.1 ([] : List (S120)) none y187 (y187.length : Int) 0)) else (none)) else (none)) else (if 1 ≤ (wrap64 ((t179.length : Int) - 2)) then (if (wrap64 ((t179.length : Int) - 2)) ≤ (t179.length : Int) then ((some ((t179.take ((wrap64 ((t179.length : Int) - 2)) : Int).toNat).drop 1 : List ByteArray)).bind fun y205 => (manifest_Parse.l0 k a0 bt184.1 ([] : List (S120)) (some (bt184.2.getD 0)) y205 (y205.length : Int) 0)) else (none)) else (none))))) else (none)))) = some (r1, r2, r3) := h
 clear h
 replace H := Option.bind_eq_some_iff.mp H
 obtain ⟨t179, A20, H⟩ := H
 replace H : (if (t179.length : Int) < 3 then (some (0, ([] : List (S120)), 30)) else (if 0 < (t179.length : Int) then ((strings_TrimPrefix.f (rdOf ByteArray.empty t179 0) (⟨#[103, 101, 110, 101, 114, 97, 116, 105, 111, 110, 32]⟩ : ByteArray)).bind fun t183 => ((strconv_Atoi.f t183).bind fun bt184 => (if bt184.2.isNone = true then (if 1 ≤ (wrap64 ((t179.length : Int) - 2)) then (if (wrap64 ((t179.length : Int) - 2)) ≤ (t179.length : Int) then ((some ((t179.take ((wrap64 ((t179.length : Int) - 2)) : Int).toNat).drop 1 : List ByteArray)).bind fun y187 => (manifest_Parse.l0 k a0 bt184.1 ([] : List (S120)) none y187 (y187.length : Int) 0)) else (none)) else (none)) else (if 1 ≤ (wrap64 ((t179.length : Int) - 2)) then (if (wrap64 ((t179.length : Int) - 2)) ≤ (t179.length : Int) then ((some ((t179.take ((wrap64 ((t179.length : Int) - 2)) : Int).toNat).drop 1 : List ByteArray)).bind fun y205 => (manifest_Parse.l0 k a0 bt184.1 ([] : List (S120)) (some (bt184.2.getD 0)) y205 (y205.length : Int) 0)) else (none)) else (none))))) else (none))) = some (r1, r2, r3) := H
 have A2 := Aside0.mk A20
 clear A20
 by_cases c3 : (t179.length : Int) < 3
 ·rw [if_pos c3] at H
  have c3b0 : decide ((t179.length : Int) < 3) = true := decide_eq_true c3
  have c3b1 : decide (t179.length < 3) = true := decide_eq_true zb13
  clear c3
  simp only [Option.some.injEq, Prod.mk.injEq] at H
  obtain ⟨rfl, rfl, rfl⟩ := H
  go_enter Tryz.func55, Tryz.ntmps55
  go_wp2_with (first | ((with_reducible refine gate_callee (f := 88) rfl ?_); refine goesL_ (some 14) rfl rfl Tryz.func88 zb10 rfl #[.string a0, .string (⟨#[10]⟩ : ByteArray)] rfl zb3 ?_; (with_reducible refine (strings_Split.calls a0 (⟨#[10]⟩ : ByteArray) t179 _ ?side1 A2.out).mono ?_); (case side1 => exact Glob.below hGA.out zb1); rintro e w4 ⟨v180, rfl, ho0, hb⟩; refine ⟨_, rfl, ?_⟩; have n0_ := Aside0.mk (Kd.R_lower ho0 (below_size zb1)); have n1_ := Aside0.mk (below_step zb1 hb); clear HB; have HO181 := n0_; have HB := n1_; clear n0_ n1_; (try clear hb); (try clear hb2); (try clear hk); (try clear hi); (try clear ho0); obtain ⟨Ao5, co5, eo5⟩ := Kd.R_slice HO181.out; subst eo5))
  go_ret3
  exact ⟨_, by first | rfl | (simp [errW_none, errW_some, bne_nil_] <;> rfl) | (simp [*, errW_none, errW_some] <;> rfl), by first | exact Kd.R_nil _ _ _ _ _ | exact Kd.N_nil _ _ _ _ _ | exact Kd.V_nil _ _ _ _ _ | exact Kd.Q_nil _ _ _ _ _ | exact Kd.S_nil _ _ _ _ _, zb1⟩
 ·rw [if_neg c3] at H
  have c3b0 : decide ((t179.length : Int) < 3) = false := decide_eq_false c3
  have c3b1 : decide (t179.length < 3) = false := decide_eq_false zb13
  clear c3
  by_cases c6 : 0 < (t179.length : Int)
  ·rw [if_pos c6] at H
   have c6b0 : decide (0 < (t179.length : Int)) = true := decide_eq_true c6
   have c6b1 : decide (0 < t179.length) = true := decide_eq_true zb13
   clear c6
   replace H := Option.bind_eq_some_iff.mp H
   obtain ⟨t183, A70, H⟩ := H
   replace H : ((strconv_Atoi.f t183).bind fun bt184 => (if bt184.2.isNone = true then (if 1 ≤ (wrap64 ((t179.length : Int) - 2)) then (if (wrap64 ((t179.length : Int) - 2)) ≤ (t179.length : Int) then ((some ((t179.take ((wrap64 ((t179.length : Int) - 2)) : Int).toNat).drop 1 : List ByteArray)).bind fun y187 => (manifest_Parse.l0 k a0 bt184.1 ([] : List (S120)) none y187 (y187.length : Int) 0)) else (none)) else (none)) else (if 1 ≤ (wrap64 ((t179.length : Int) - 2)) then (if (wrap64 ((t179.length : Int) - 2)) ≤ (t179.length : Int) then ((some ((t179.take ((wrap64 ((t179.length : Int) - 2)) : Int).toNat).drop 1 : List ByteArray)).bind fun y205 => (manifest_Parse.l0 k a0 bt184.1 ([] : List (S120)) (some (bt184.2.getD 0)) y205 (y205.length : Int) 0)) else (none)) else (none)))) = some (r1, r2, r3) := H
   have A7 := Aside0.mk A70
   clear A70
   replace H := Option.bind_eq_some_iff.mp H
   obtain ⟨⟨t184, t185⟩, A80, H⟩ := H
   replace H : (if t185.isNone = true then (if 1 ≤ (wrap64 ((t179.length : Int) - 2)) then (if (wrap64 ((t179.length : Int) - 2)) ≤ (t179.length : Int) then ((some ((t179.take ((wrap64 ((t179.length : Int) - 2)) : Int).toNat).drop 1 : List ByteArray)).bind fun y187 => (manifest_Parse.l0 k a0 t184 ([] : List (S120)) none y187 (y187.length : Int) 0)) else (none)) else (none)) else (if 1 ≤ (wrap64 ((t179.length : Int) - 2)) then (if (wrap64 ((t179.length : Int) - 2)) ≤ (t179.length : Int) then ((some ((t179.take ((wrap64 ((t179.length : Int) - 2)) : Int).toNat).drop 1 : List ByteArray)).bind fun y205 => (manifest_Parse.l0 k a0 t184 ([] : List (S120)) (some (t185.getD 0)) y205 (y205.length : Int) 0)) else (none)) else (none))) = some (r1, r2, r3) := H
   have A8 := Aside0.mk A80
   clear A80
   rcases t185 with _ | q186
   ·have H1 : (if 1 ≤ (wrap64 ((t179.length : Int) - 2)) then (if (wrap64 ((t179.length : Int) - 2)) ≤ (t179.length : Int) then ((some ((t179.take ((wrap64 ((t179.length : Int) - 2)) : Int).toNat).drop 1 : List ByteArray)).bind fun y187 => (manifest_Parse.l0 k a0 t184 ([] : List (S120)) none y187 (y187.length : Int) 0)) else (none)) else (none)) = some (r1, r2, r3) := by rw [if_pos (show (none : Option Int).isNone = true by rfl)] at H; exact H
    clear H
    have H := H1
    clear H1
    try simp only [errW_none, errW_some]
    by_cases c9 : 1 ≤ (wrap64 ((t179.length : Int) - 2))
    ·rw [if_pos c9] at H
     have c9b0 := eq_true c9
     have c9b1 : decide (1 ≤ (wrap64 ((t179.length : Int) - 2))) = true := decide_eq_true c9
     clear c9
     by_cases c10 : (wrap64 ((t179.length : Int) - 2)) ≤ (t179.length : Int)
     ·rw [if_pos c10] at H
      have c10b0 := eq_true c10
      have c10b1 : decide ((wrap64 ((t179.length : Int) - 2)) ≤ (t179.length : Int)) = true := decide_eq_true c10
      clear c10
      obtain ⟨y187, hy187⟩ : ∃ y_ : List ByteArray, y_ = ((t179.take ((wrap64 ((t179.length : Int) - 2)) : Int).toNat).drop 1) := ⟨_, rfl⟩
      replace H : (manifest_Parse.l0 k a0 t184 ([] : List (S120)) none y187 (y187.length : Int) 0) = some (r1, r2, r3) := by first | (rw [hy187]; with_reducible exact H) | (have H2_ := (Option.bind_some _ _).symm.trans H; rw [hy187]; with_reducible exact H2_) | (have H2_ := (Option.bind_some _ _).symm.trans H; with_reducible exact H2_) | with_reducible exact H | (rw [hy187]; exact H) | exact H
      have Ny187 := Aside0.mk hy187
      clear hy187
      have H' := Aside0.mk H
      clear H
      go_enter Tryz.func55, Tryz.ntmps55
      go_wp2_with (first | ((with_reducible refine gate_callee (f := 88) rfl ?_); refine goesL_ (some 14) rfl rfl Tryz.func88 zb10 rfl #[.string a0, .string (⟨#[10]⟩ : ByteArray)] rfl zb3 ?_; (with_reducible refine (strings_Split.calls a0 (⟨#[10]⟩ : ByteArray) t179 _ ?side1 A2.out).mono ?_); (case side1 => exact Glob.below hGA.out zb1); rintro e w11 ⟨v180, rfl, ho0, hb⟩; refine ⟨_, rfl, ?_⟩; have n0_ := Aside0.mk (Kd.R_lower ho0 (below_size zb1)); have n1_ := Aside0.mk (below_step zb1 hb); clear HB; have HO181 := n0_; have HB := n1_; clear n0_ n1_; (try clear hb); (try clear hb2); (try clear hk); (try clear hi); (try clear ho0); obtain ⟨Ao12, co12, eo12⟩ := Kd.R_slice HO181.out; subst eo12; have p182 : 0 ≤ (0 : Int) := zb13; have q182 : 0 < (t179.length : Int) := of_decide_eq_true zb5; obtain ⟨ad182, e182, hx182_0⟩ := Kd.at_string (Kd.R_reads' HO181.out).2.2 0 p182 q182; cases e182; have qi182 : (0 < t179.length) = True := eq_true zb13; (try rw [show ((0 : Int)).toNat = 0 from rfl] at hx182_0); (try rw [Addr.add_zero'] at hx182_0); replace p182 := eq_true p182; replace q182 := eq_true q182) | ((with_reducible refine gate_callee (f := 90) rfl ?_); refine goesL_ (some 22) rfl rfl Tryz.func90 zb10 rfl #[.string (rdOf ByteArray.empty t179 0), .string (⟨#[103, 101, 110, 101, 114, 97, 116, 105, 111, 110, 32]⟩ : ByteArray)] rfl zb3 ?_; (with_reducible refine (strings_TrimPrefix.calls (rdOf ByteArray.empty t179 0) (⟨#[103, 101, 110, 101, 114, 97, 116, 105, 111, 110, 32]⟩ : ByteArray) t183 _ A7.out).mono ?_); rintro e w' ⟨rfl, ⟨nd, rfl⟩⟩; refine ⟨_, rfl, ?_⟩) | ((with_reducible refine gate_callee (f := 89) rfl ?_); refine goesL_ (some 23) rfl rfl Tryz.func89 zb10 rfl #[.string t183] rfl zb3 ?_; (with_reducible refine (strconv_Atoi.calls t183 t184 none _ ?side1 A8.out).mono ?_); (case side1 => exact Glob.below hGA.out zb1); rintro e w13 ⟨pv14, hpv14, rfl, hb⟩; refine ⟨_, rfl, ?_⟩; obtain rfl := ErrIs.none_ hpv14; have n0_ := Aside0.mk (Kd.R_below (by (with_reducible repeat (first | apply Kd.R_alloc | apply Kd.R_drewN | apply Kd.R_drew)); exact HO181.out) hb); have n1_ := Aside0.mk (below_step zb1 hb); clear HO181; clear HB; have HO181 := n0_; have HB := n1_; clear n0_ n1_; (try clear hb); (try clear hb2); (try clear hk); (try clear hi); (try simp only [errW_none, errW_some]); have q15 : ((wrap64 ((t179.length : Int) - 2)) : Int) ≤ ((t179.length : Int) : Int) := of_decide_eq_true zb5; obtain ⟨i015, hi015, _, hsz15, _⟩ := info_parts info9; have hroom15 : t179.length ≤ co12 := (Kd.R_reads' HO181.out).2.1; have hC15 : Kd.F Kd.string _ _ (some ad182) t179.length t179 := (Kd.V_at (base := w.heap.size) (Kd.R_V HO181.out)).2.2; have ql15 : (1 : Int) ≤ ((wrap64 ((t179.length : Int) - 2)) : Int) := of_decide_eq_true zb5; have hcut15 := cut_mid (P := Tryz.prog) 41 9 .i64 .i64 Tryz.underlying41 hi015 1 hsz15 (some ad182) t179.length co12 1 (wrap64 ((t179.length : Int) - 2)) zb13 ql15 q15 hroom15; have hr15 := Kd.F_mid (lo := (1 : Int).toNat) (hi := ((wrap64 ((t179.length : Int) - 2)) : Int).toNat) (c := co12) hC15 zb13 zb13 hroom15; obtain ⟨A15, hA15⟩ : ∃ A1, A1 = (if co12 = (1 : Int).toNat then (some ad182) else ((some ad182) : Option Addr).map (·.add ((1 : Int).toNat * 1))) := ⟨_, rfl⟩; obtain ⟨c15, hc15⟩ : ∃ c1, c1 = co12 - (1 : Int).toNat := ⟨_, rfl⟩; have hy15 : y187.length = ((wrap64 ((t179.length : Int) - 2)) : Int).toNat - (1 : Int).toNat := (by rw [Ny187.out, List.length_drop, List.length_take] <;> omega); rw [show ((t179).take ((wrap64 ((t179.length : Int) - 2)) : Int).toNat).drop (1 : Int).toNat = y187 from Ny187.out.symm] at hr15; replace hr15 : Kd.F Kd.string _ _ A15 y187.length y187 := (by rw [hA15]; exact hr15); rw [← hy15, ← hA15, ← hc15] at hcut15; have HO191 := Aside0.mk (show Kd.V Kd.string 9 _ w.heap.size _ (.slice A15 y187.length c15) y187 from Kd.V_mk (by rw [hy15, hc15]; exact Nat.sub_le_sub_right (Nat.le_trans zb13 hroom15) _) hr15); have HC191 := Aside0.mk (show y187.length ≤ c15 from by rw [hy15, hc15]; exact Nat.sub_le_sub_right (Nat.le_trans zb13 hroom15) _); clear hr15 hC15 hroom15 hi015 hsz15 hc15; have KY15 := Aside0.mk hy15; have KA15 := Aside0.mk hA15; clear hy15 hA15; replace q15 := eq_true q15))
      first | go_loopg [2, 3, 32] k (fun kq v2 v3 v32 w' => ∃ (x2_1 : Int) (x3_1 : List (S120)) (x32_1 : Int), v2 = .int .i64 x2_1 ∧ v32 = .int .i64 x32_1 ∧ Aside0 (manifest_Parse.l0 kq a0 x2_1 x3_1 none y187 (y187.length : Int) x32_1 = some (r1, r2, r3)) ∧ Aside0 (kq ≤ k) ∧ Aside0 (Kd.R k120 120 w' w.heap.size (fun _ => True) v3 x3_1) ∧ Aside0 (Kd.V Kd.string 9 w' w.heap.size (fun k_ => some k_ ≠ (v3 : Value).ownBlock) (.slice A15 y187.length c15) y187) ∧ Aside0 (Below w.heap.size w w')) | (go_simp; go_loopg [2, 3, 32] k (fun kq v2 v3 v32 w' => ∃ (x2_1 : Int) (x3_1 : List (S120)) (x32_1 : Int), v2 = .int .i64 x2_1 ∧ v32 = .int .i64 x32_1 ∧ Aside0 (manifest_Parse.l0 kq a0 x2_1 x3_1 none y187 (y187.length : Int) x32_1 = some (r1, r2, r3)) ∧ Aside0 (kq ≤ k) ∧ Aside0 (Kd.R k120 120 w' w.heap.size (fun _ => True) v3 x3_1) ∧ Aside0 (Kd.V Kd.string 9 w' w.heap.size (fun k_ => some k_ ≠ (v3 : Value).ownBlock) (.slice A15 y187.length c15) y187) ∧ Aside0 (Below w.heap.size w w')))
      case atStart => exact ⟨(t184), (([] : List (S120))), (0), zb14, zb14, H', ⟨Nat.le_refl _⟩, ⟨by first | exact Kd.R_nil _ _ _ _ _ | exact Kd.N_nil _ _ _ _ _ | exact Kd.V_nil _ _ _ _ _ | exact Kd.Q_nil _ _ _ _ _ | exact Kd.S_nil _ _ _ _ _⟩, ⟨by (with_reducible repeat (first | apply Kd.V_alloc | apply Kd.V_drewN | apply Kd.V_drew)); exact Kd.V_mono HO191.out (fun _ hk => (by simp [Value.ownBlock]))⟩, ⟨by repeat (first | (with_reducible first | exact HB.out | apply below_alloc | apply pw_below_drewN | apply below_drew1) | exact HB.out)⟩⟩
      case round =>
       clear H'
       try clear c1
       try clear p1
       try clear q1
       try clear hx1
       try clear qi1
       try clear p2
       try clear c3
       try clear c3b0
       try clear c3b1
       try clear c5
       try clear c6
       try clear c6b0
       try clear c6b1
       try clear p6
       try clear c8
       try clear c9
       try clear c9b0
       try clear c9b1
       try clear c10
       try clear c10b0
       try clear c10b1
       try clear c15
       try clear q15
       try clear hx182_0
       try clear p182
       try clear q15
       try clear q182
       try clear q186
       obtain ⟨x2_1, x3_1, x32_1, rfl, rfl, HA, HK1, HO_3, HO_30, HB⟩ := hrel
       cases gk with
       | zero => exact absurd HA.out (by simp [manifest_Parse.l0])
       | succ k1 =>
        have H := HA.out
        clear HA
        simp only [manifest_Parse.l0] at H
        by_cases c16 : x32_1 < (y187.length : Int)
        ·rw [if_pos c16] at H
         have c16b0 : decide (x32_1 < (y187.length : Int)) = true := decide_eq_true c16
         clear c16
         by_cases c17 : 0 ≤ x32_1
         ·rw [if_pos c17] at H
          have c17b0 : decide (0 ≤ x32_1) = true := decide_eq_true c17
          clear c17
          by_cases c18 : x32_1 < (y187.length : Int)
          ·rw [if_pos c18] at H
           have c18b0 : decide (x32_1 < (y187.length : Int)) = true := decide_eq_true c18
           clear c18
           replace H := Option.bind_eq_some_iff.mp H
           obtain ⟨⟨t193, t194, t195, t196, t197⟩, A190, H⟩ := H
           replace H : (if t197 = true then (if x3_1.length < 2932031007402 then (manifest_Parse.l0 k1 a0 x2_1 (x3_1 ++ [(⟨t193, t194, t195, t196⟩ : S120)]) none y187 (y187.length : Int) (wrap64 (x32_1 + 1))) else (none)) else (some (0, ([] : List (S120)), 30))) = some (r1, r2, r3) := H
           have A19 := Aside0.mk A190
           clear A190
           by_cases c20 : t197 = true
           ·subst c20
            replace H : (if x3_1.length < 2932031007402 then (manifest_Parse.l0 k1 a0 x2_1 (x3_1 ++ [(⟨t193, t194, t195, t196⟩ : S120)]) none y187 (y187.length : Int) (wrap64 (x32_1 + 1))) else (none)) = some (r1, r2, r3) := by rw [if_pos rfl] at H; exact H
            by_cases c21 : x3_1.length < 2932031007402
            ·rw [if_pos c21] at H
             have LMc21 := Aside0.mk c21
             clear c21
             obtain ⟨y199, hy199⟩ : ∃ y_ : List (S120), y_ = (x3_1 ++ [(⟨t193, t194, t195, t196⟩ : S120)]) := ⟨_, rfl⟩
             replace H : (manifest_Parse.l0 k1 a0 x2_1 y199 none y187 (y187.length : Int) (wrap64 (x32_1 + 1))) = some (r1, r2, r3) := by first | (rw [hy199]; with_reducible exact H) | (have H2_ := (Option.bind_some _ _).symm.trans H; rw [hy199]; with_reducible exact H2_) | (have H2_ := (Option.bind_some _ _).symm.trans H; with_reducible exact H2_) | with_reducible exact H | (rw [hy199]; exact H) | exact H
             have Ny199 := Aside0.mk hy199
             clear hy199
             have H' := Aside0.mk H
             clear H
             have p192 : 0 ≤ (x32_1 : Int) := of_decide_eq_true zb5
             have q192 : x32_1 < (y187.length : Int) := of_decide_eq_true zb5
             obtain ⟨ad192, e192, hx192_0⟩ := Kd.at_string (Kd.V_reads' HO_30.out).2.2 x32_1 p192 q192
             cases e192
             replace p192 := eq_true p192
             replace q192 := eq_true q192
             go_wp2_with (first | ((with_reducible refine gate_callee (f := 91) rfl ?_); refine goesL_ (some 38) rfl rfl Tryz.func91 zb10 rfl #[.string (rdOf ByteArray.empty y187 x32_1)] rfl zb3 ?_; (with_reducible refine (manifest_row.calls (rdOf ByteArray.empty y187 x32_1) t193 t194 t195 t196 true _ ?side1 A19.out).mono ?_); (case side1 => exact Glob.below hGA.out zb1); rintro e w22 ⟨rfl, hb⟩; refine ⟨_, rfl, ?_⟩; have n0_ := Aside0.mk (Kd.R_below zb21 hb); have n1_ := Aside0.mk (Kd.V_below zb19 hb); have n2_ := Aside0.mk (below_step zb1 hb); clear HO_3; clear HO_30; clear HB; have HO_3 := n0_; have HO_30 := n1_; have HB := n2_; clear n0_ n1_ n2_; (try clear hb); (try clear hb2); (try clear hk); (try clear hi)) | ((with_reducible refine gate_dst (N := 9) rfl ?_); refine box_event ?hg (N := 9) ?hd (cs := #[.string (⟨#[]⟩ : ByteArray), .string (⟨#[]⟩ : ByteArray), .int .i64 0, .int .i64 0]) (t := 120) ?hr ?_; (case hd => rfl); (case hg => rfl); (case hr => first | (go_simp; done) | (go_simp; rfl)); intro gb198 hg w23 hbox hb; have n0_ := Aside0.mk (Kd.R_below (Kd.R_elderB zb21 gb198 (Nat.le_of_eq hg.symm)) hb); have n1_ := Aside0.mk (Kd.V_below (Kd.V_elderB zb19 gb198 (Nat.le_of_eq hg.symm)) hb); have n2_ := Aside0.mk (below_step zb1 hb); have n3_ := Aside0.mk (hbox); have n4_ := Aside0.mk ((by rw [hg]; exact (below_size zb1) : w.heap.size ≤ gb198)); have n5_ := Aside0.mk ((by rw [hg]; exact (below_size zb1) : w.heap.size ≤ gb198)); clear HO_3; clear HO_30; clear HB; have HO_3 := n0_; have HO_30 := n1_; have HB := n2_; have BK198 := n3_; have GW198 := n4_; have GE198 := n5_; clear n0_ n1_ n2_ n3_ n4_ n5_; clear hb hbox hg; have hcz24_0 : w23.cell? ⟨gb198, 0, none⟩ = some (.string (⟨#[]⟩ : ByteArray)) := (blk_cell BK198.out 0).trans rfl; have hcz24_1 : w23.cell? ⟨gb198, 1, none⟩ = some (.string (⟨#[]⟩ : ByteArray)) := (blk_cell BK198.out 1).trans rfl; have hcz24_2 : w23.cell? ⟨gb198, 2, none⟩ = some (.int .i64 0) := (blk_cell BK198.out 2).trans rfl; have hcz24_3 : w23.cell? ⟨gb198, 3, none⟩ = some (.int .i64 0) := (blk_cell BK198.out 3).trans rfl; have hfz24_0 := blk_frozen BK198.out 0; have hfz24_1 := blk_frozen BK198.out 1; have hfz24_2 := blk_frozen BK198.out 2; have hfz24_3 := blk_frozen BK198.out 3) | ((with_reducible refine gate_builtin (b := .append) (xs := #[.tmp 43, .tmp 45]) rfl ?_); at_builtin; refine Kd.R_append k120 (w0 := w) w.heap.size rfl (.tmp 43) (.tmp 45) 100 120 (.agg #[(.string ⟨#[]⟩), (.string ⟨#[]⟩), (.int .i64 0), (.int .i64 0)]) 48 rfl Tryz.underlying100 info120 rfl zb25 zb13 u3 x3_1 (⟨t193, t194, t195, t196⟩ : S120) [.string t193, .string t194, .int .i64 t195, .int .i64 t196] (fun k_ => k_ ≠ gb198) (fun _ => False) rfl (by first | (go_simp; done) | (go_simp; rfl)) ?aP (fun _ hk => hk.elim) ?aF ?aO ?aB ?aS ?aL ?_; (case aP => exact k120_mkM _ _ _ (⟨t193, t194, t195, t196⟩ : S120)); (case aB => exact zb26); (case aF => exact (fun k_ hk => Kd.freshB (g := gb198) (o := .cells #[.string t193, .string t194, .int .i64 t195, .int .i64 t196] 120 (0, 0)) zb9 k_ hk)); (case aO => exact zb34); (case aS => exact (below_size zb26)); (case aL => have := LMc21.out; omega); intro v200 w25 ho hb hg hat; rw [← Ny199.out] at ho; have n0_ := Aside0.mk (Kd.V_afterv (ok := (fun k_ => k_ ≠ gb198)) zb33 hg hat); have n1_ := Aside0.mk (blk_grown (g := gb198) (o := .cells #[.string t193, .string t194, .int .i64 t195, .int .i64 t196] 120 (0, 0)) zb9 hg (Kd.R_away HO_3.out (fun _ hk => hk.2))); have n2_ := Aside0.mk (hb); have n3_ := Aside0.mk (ho); clear HO_30; clear BK198; clear HB; clear HO_3; have HO_30 := n0_; have BK198 := n1_; have HB := n2_; have HO201 := n3_; clear n0_ n1_ n2_ n3_; clear ho hb hg hat))
             go_roundg k1
             case measure => have := HK1.out; omega
             case rel => exact ⟨(x2_1), (y199), (wrap64 (x32_1 + 1)), zb14, zb14, H', ⟨by have := HK1.out; omega⟩, ⟨by (with_reducible repeat (first | apply Kd.R_alloc | apply Kd.R_drewN | apply Kd.R_drew)); exact Kd.R_mono HO201.out (fun _ hk => trivial)⟩, ⟨by (with_reducible repeat (first | apply Kd.V_alloc | apply Kd.V_drewN | apply Kd.V_drew)); exact Kd.V_mono HO_30.out (fun _ hk => hk.2)⟩, ⟨by repeat (first | (with_reducible first | exact HB.out | apply below_alloc | apply pw_below_drewN | apply below_drew1 | refine below_set ?_ GE198.out) | exact HB.out)⟩⟩
            ·rw [if_neg c21] at H
             exact absurd H zb35
           ·replace c20 := Bool.eq_false_iff.mpr c20
            subst c20
            replace H : (some (0, ([] : List (S120)), 30)) = some (r1, r2, r3) := by rw [if_neg (show ¬ (false = true) by decide)] at H; exact H
            simp only [Option.some.injEq, Prod.mk.injEq] at H
            obtain ⟨rfl, rfl, rfl⟩ := H
            have p192 : 0 ≤ (x32_1 : Int) := of_decide_eq_true zb5
            have q192 : x32_1 < (y187.length : Int) := of_decide_eq_true zb5
            obtain ⟨ad192, e192, hx192_0⟩ := Kd.at_string (Kd.V_reads' HO_30.out).2.2 x32_1 p192 q192
            cases e192
            replace p192 := eq_true p192
            replace q192 := eq_true q192
            go_wp2_with (first | ((with_reducible refine gate_callee (f := 91) rfl ?_); refine goesL_ (some 38) rfl rfl Tryz.func91 zb10 rfl #[.string (rdOf ByteArray.empty y187 x32_1)] rfl zb3 ?_; (with_reducible refine (manifest_row.calls (rdOf ByteArray.empty y187 x32_1) t193 t194 t195 t196 false _ ?side1 A19.out).mono ?_); (case side1 => exact Glob.below hGA.out zb1); rintro e w26 ⟨rfl, hb⟩; refine ⟨_, rfl, ?_⟩; have n0_ := Aside0.mk (Kd.R_below zb21 hb); have n1_ := Aside0.mk (Kd.V_below zb19 hb); have n2_ := Aside0.mk (below_step zb1 hb); clear HO_3; clear HO_30; clear HB; have HO_3 := n0_; have HO_30 := n1_; have HB := n2_; clear n0_ n1_ n2_; (try clear hb); (try clear hb2); (try clear hk); (try clear hi)) | ((with_reducible refine gate_dst (N := 9) rfl ?_); refine box_event ?hg (N := 9) ?hd (cs := #[.string (⟨#[]⟩ : ByteArray), .string (⟨#[]⟩ : ByteArray), .int .i64 0, .int .i64 0]) (t := 120) ?hr ?_; (case hd => rfl); (case hg => rfl); (case hr => first | (go_simp; done) | (go_simp; rfl)); intro gb198 hg w27 hbox hb; have n0_ := Aside0.mk (Kd.R_below (Kd.R_elderB zb21 gb198 (Nat.le_of_eq hg.symm)) hb); have n1_ := Aside0.mk (Kd.V_below (Kd.V_elderB zb19 gb198 (Nat.le_of_eq hg.symm)) hb); have n2_ := Aside0.mk (below_step zb1 hb); have n3_ := Aside0.mk (hbox); have n4_ := Aside0.mk ((by rw [hg]; exact (below_size zb1) : w.heap.size ≤ gb198)); have n5_ := Aside0.mk ((by rw [hg]; exact (below_size zb1) : w.heap.size ≤ gb198)); clear HO_3; clear HO_30; clear HB; have HO_3 := n0_; have HO_30 := n1_; have HB := n2_; have BK198 := n3_; have GW198 := n4_; have GE198 := n5_; clear n0_ n1_ n2_ n3_ n4_ n5_; clear hb hbox hg; have hcz28_0 : w27.cell? ⟨gb198, 0, none⟩ = some (.string (⟨#[]⟩ : ByteArray)) := (blk_cell BK198.out 0).trans rfl; have hcz28_1 : w27.cell? ⟨gb198, 1, none⟩ = some (.string (⟨#[]⟩ : ByteArray)) := (blk_cell BK198.out 1).trans rfl; have hcz28_2 : w27.cell? ⟨gb198, 2, none⟩ = some (.int .i64 0) := (blk_cell BK198.out 2).trans rfl; have hcz28_3 : w27.cell? ⟨gb198, 3, none⟩ = some (.int .i64 0) := (blk_cell BK198.out 3).trans rfl; have hfz28_0 := blk_frozen BK198.out 0; have hfz28_1 := blk_frozen BK198.out 1; have hfz28_2 := blk_frozen BK198.out 2; have hfz28_3 := blk_frozen BK198.out 3))
            go_ret3
            exact ⟨_, by first | rfl | (simp [errW_none, errW_some, bne_nil_] <;> rfl) | (simp [*, errW_none, errW_some] <;> rfl), by first | exact Kd.R_nil _ _ _ _ _ | exact Kd.N_nil _ _ _ _ _ | exact Kd.V_nil _ _ _ _ _ | exact Kd.Q_nil _ _ _ _ _ | exact Kd.S_nil _ _ _ _ _, zb26⟩
          ·rw [if_neg c18] at H
           exact absurd H zb35
         ·rw [if_neg c17] at H
          exact absurd H zb35
        ·rw [if_neg c16] at H
         have c16b0 : decide (x32_1 < (y187.length : Int)) = false := decide_eq_false c16
         clear c16
         replace H := Option.bind_eq_some_iff.mp H
         obtain ⟨⟨t202, t203⟩, A290, H⟩ := H
         replace H : (if none.isNone = true then (if t203 = 0 then (if t202.toList = a0.toList then (some (x2_1, x3_1, 0)) else (some (0, ([] : List (S120)), 30))) else (some (0, ([] : List (S120)), 30))) else (some (0, ([] : List (S120)), 30))) = some (r1, r2, r3) := H
         have A29 := Aside0.mk A290
         clear A290
         replace H : (if t203 = 0 then (if t202.toList = a0.toList then (some (x2_1, x3_1, 0)) else (some (0, ([] : List (S120)), 30))) else (some (0, ([] : List (S120)), 30))) = some (r1, r2, r3) := by rw [if_pos (show (none : Option Int).isNone = true by rfl)] at H; exact H
         by_cases c30 : t203 = 0
         ·rw [if_pos c30] at H
          have c30b0 : (t203 == 0) = true := beq_iff_eq.mpr c30
          have c30b1 : (t203 != 0) = false := bne_eq_false_iff_eq.mpr c30
          clear c30
          by_cases c31 : t202.toList = a0.toList
          ·rw [if_pos c31] at H
           have c31b0 : (t202.toList == a0.toList) = true := beq_iff_eq.mpr c31
           have c31b1 : (t202.toList != a0.toList) = false := bne_eq_false_iff_eq.mpr c31
           clear c31
           simp only [Option.some.injEq, Prod.mk.injEq] at H
           obtain ⟨rfl, rfl, rfl⟩ := H
           obtain ⟨Ao32, co32, eo32⟩ := Kd.R_slice HO_3.out
           subst eo32
           go_wp2_with (first | ((with_reducible refine gate_callee (f := 63) rfl ?_); refine goesL_ (some 51) rfl rfl Tryz.func63 zb10 rfl #[.int .i64 x2_1, .slice Ao32 x3_1.length co32] rfl zb3 ?_; (with_reducible refine (manifest_Print.calls k1 x2_1 _ _ x3_1 t202 t203 _ ?side1 ?side2 ?side3 A29.out).mono ?_); (case side1 => repeat (first | exact (Kd.R_reads' HO_3.out).2.2 | (with_reducible refine Kd.C_alloc ?_ _) | (with_reducible refine Kd.C_drewN ?_ _) | (with_reducible refine Kd.C_drew ?_))); (case side2 => exact (Kd.R_reads' HO_3.out).2.1); (case side3 => exact Glob.below hGA.out zb1); rintro e w33 ⟨rfl, hb⟩; refine ⟨_, rfl, ?_⟩; have n0_ := Aside0.mk (Kd.R_below zb21 hb); have n1_ := Aside0.mk (Kd.V_below zb19 hb); have n2_ := Aside0.mk (below_step zb1 hb); clear HO_3; clear HO_30; clear HB; have HO_3 := n0_; have HO_30 := n1_; have HB := n2_; clear n0_ n1_ n2_; (try clear hb); (try clear hb2); (try clear hk); (try clear hi)))
           go_ret3
           exact ⟨_, by first | rfl | (simp [errW_none, errW_some, bne_nil_] <;> rfl) | (simp [*, errW_none, errW_some] <;> rfl), by (with_reducible repeat (first | apply Kd.R_alloc | apply Kd.R_drewN | apply Kd.R_drew)); exact HO_3.out, zb1⟩
          ·rw [if_neg c31] at H
           have c31b0 : (t202.toList == a0.toList) = false := beq_eq_false_iff_ne.mpr c31
           have c31b1 : (t202.toList != a0.toList) = true := bne_iff_ne.mpr c31
           simp only [Option.some.injEq, Prod.mk.injEq] at H
           obtain ⟨rfl, rfl, rfl⟩ := H
           obtain ⟨Ao34, co34, eo34⟩ := Kd.R_slice HO_3.out
           subst eo34
           go_wp2_with (first | ((with_reducible refine gate_callee (f := 63) rfl ?_); refine goesL_ (some 51) rfl rfl Tryz.func63 zb10 rfl #[.int .i64 x2_1, .slice Ao34 x3_1.length co34] rfl zb3 ?_; (with_reducible refine (manifest_Print.calls k1 x2_1 _ _ x3_1 t202 t203 _ ?side1 ?side2 ?side3 A29.out).mono ?_); (case side1 => repeat (first | exact (Kd.R_reads' HO_3.out).2.2 | (with_reducible refine Kd.C_alloc ?_ _) | (with_reducible refine Kd.C_drewN ?_ _) | (with_reducible refine Kd.C_drew ?_))); (case side2 => exact (Kd.R_reads' HO_3.out).2.1); (case side3 => exact Glob.below hGA.out zb1); rintro e w35 ⟨rfl, hb⟩; refine ⟨_, rfl, ?_⟩; have n0_ := Aside0.mk (Kd.R_below zb21 hb); have n1_ := Aside0.mk (Kd.V_below zb19 hb); have n2_ := Aside0.mk (below_step zb1 hb); clear HO_3; clear HO_30; clear HB; have HO_3 := n0_; have HO_30 := n1_; have HB := n2_; clear n0_ n1_ n2_; (try clear hb); (try clear hb2); (try clear hk); (try clear hi)))
           go_ret3
           exact ⟨_, by first | rfl | (simp [errW_none, errW_some, bne_nil_] <;> rfl) | (simp [*, errW_none, errW_some] <;> rfl), by first | exact Kd.R_nil _ _ _ _ _ | exact Kd.N_nil _ _ _ _ _ | exact Kd.V_nil _ _ _ _ _ | exact Kd.Q_nil _ _ _ _ _ | exact Kd.S_nil _ _ _ _ _, zb1⟩
         ·rw [if_neg c30] at H
          have c30b0 : (t203 == 0) = false := beq_eq_false_iff_ne.mpr c30
          have c30b1 : (t203 != 0) = true := bne_iff_ne.mpr c30
          simp only [Option.some.injEq, Prod.mk.injEq] at H
          obtain ⟨rfl, rfl, rfl⟩ := H
          obtain ⟨Ao36, co36, eo36⟩ := Kd.R_slice HO_3.out
          subst eo36
          go_wp2_with (first | ((with_reducible refine gate_callee (f := 63) rfl ?_); refine goesL_ (some 51) rfl rfl Tryz.func63 zb10 rfl #[.int .i64 x2_1, .slice Ao36 x3_1.length co36] rfl zb3 ?_; (with_reducible refine (manifest_Print.calls k1 x2_1 _ _ x3_1 t202 t203 _ ?side1 ?side2 ?side3 A29.out).mono ?_); (case side1 => repeat (first | exact (Kd.R_reads' HO_3.out).2.2 | (with_reducible refine Kd.C_alloc ?_ _) | (with_reducible refine Kd.C_drewN ?_ _) | (with_reducible refine Kd.C_drew ?_))); (case side2 => exact (Kd.R_reads' HO_3.out).2.1); (case side3 => exact Glob.below hGA.out zb1); rintro e w37 ⟨rfl, hb⟩; refine ⟨_, rfl, ?_⟩; have n0_ := Aside0.mk (Kd.R_below zb21 hb); have n1_ := Aside0.mk (Kd.V_below zb19 hb); have n2_ := Aside0.mk (below_step zb1 hb); clear HO_3; clear HO_30; clear HB; have HO_3 := n0_; have HO_30 := n1_; have HB := n2_; clear n0_ n1_ n2_; (try clear hb); (try clear hb2); (try clear hk); (try clear hi)))
          go_ret3
          exact ⟨_, by first | rfl | (simp [errW_none, errW_some, bne_nil_] <;> rfl) | (simp [*, errW_none, errW_some] <;> rfl), by first | exact Kd.R_nil _ _ _ _ _ | exact Kd.N_nil _ _ _ _ _ | exact Kd.V_nil _ _ _ _ _ | exact Kd.Q_nil _ _ _ _ _ | exact Kd.S_nil _ _ _ _ _, zb1⟩
     ·rw [if_neg c10] at H
      exact absurd H zb35
    ·rw [if_neg c9] at H
     exact absurd H zb35
   ·have H1 : (if 1 ≤ (wrap64 ((t179.length : Int) - 2)) then (if (wrap64 ((t179.length : Int) - 2)) ≤ (t179.length : Int) then ((some ((t179.take ((wrap64 ((t179.length : Int) - 2)) : Int).toNat).drop 1 : List ByteArray)).bind fun y205 => (manifest_Parse.l0 k a0 t184 ([] : List (S120)) (some q186) y205 (y205.length : Int) 0)) else (none)) else (none)) = some (r1, r2, r3) := by rw [if_neg (show ¬ (some q186).isNone = true by simp)] at H; exact H
    clear H
    have H := H1
    clear H1
    try simp only [errW_none, errW_some]
    by_cases c38 : 1 ≤ (wrap64 ((t179.length : Int) - 2))
    ·rw [if_pos c38] at H
     have c38b0 := eq_true c38
     have c38b1 : decide (1 ≤ (wrap64 ((t179.length : Int) - 2))) = true := decide_eq_true c38
     clear c38
     by_cases c39 : (wrap64 ((t179.length : Int) - 2)) ≤ (t179.length : Int)
     ·rw [if_pos c39] at H
      have c39b0 := eq_true c39
      have c39b1 : decide ((wrap64 ((t179.length : Int) - 2)) ≤ (t179.length : Int)) = true := decide_eq_true c39
      clear c39
      obtain ⟨y205, hy205⟩ : ∃ y_ : List ByteArray, y_ = ((t179.take ((wrap64 ((t179.length : Int) - 2)) : Int).toNat).drop 1) := ⟨_, rfl⟩
      replace H : (manifest_Parse.l0 k a0 t184 ([] : List (S120)) (some q186) y205 (y205.length : Int) 0) = some (r1, r2, r3) := by first | (rw [hy205]; with_reducible exact H) | (have H2_ := (Option.bind_some _ _).symm.trans H; rw [hy205]; with_reducible exact H2_) | (have H2_ := (Option.bind_some _ _).symm.trans H; with_reducible exact H2_) | with_reducible exact H | (rw [hy205]; exact H) | exact H
      have Ny205 := Aside0.mk hy205
      clear hy205
      have H' := Aside0.mk H
      clear H
      go_enter Tryz.func55, Tryz.ntmps55
      go_wp2_with (first | ((with_reducible refine gate_callee (f := 88) rfl ?_); refine goesL_ (some 14) rfl rfl Tryz.func88 zb10 rfl #[.string a0, .string (⟨#[10]⟩ : ByteArray)] rfl zb3 ?_; (with_reducible refine (strings_Split.calls a0 (⟨#[10]⟩ : ByteArray) t179 _ ?side1 A2.out).mono ?_); (case side1 => exact Glob.below hGA.out zb1); rintro e w40 ⟨v180, rfl, ho0, hb⟩; refine ⟨_, rfl, ?_⟩; have n0_ := Aside0.mk (Kd.R_lower ho0 (below_size zb1)); have n1_ := Aside0.mk (below_step zb1 hb); clear HB; have HO181 := n0_; have HB := n1_; clear n0_ n1_; (try clear hb); (try clear hb2); (try clear hk); (try clear hi); (try clear ho0); obtain ⟨Ao41, co41, eo41⟩ := Kd.R_slice HO181.out; subst eo41; have p182 : 0 ≤ (0 : Int) := zb13; have q182 : 0 < (t179.length : Int) := of_decide_eq_true zb5; obtain ⟨ad182, e182, hx182_0⟩ := Kd.at_string (Kd.R_reads' HO181.out).2.2 0 p182 q182; cases e182; have qi182 : (0 < t179.length) = True := eq_true zb13; (try rw [show ((0 : Int)).toNat = 0 from rfl] at hx182_0); (try rw [Addr.add_zero'] at hx182_0); replace p182 := eq_true p182; replace q182 := eq_true q182) | ((with_reducible refine gate_callee (f := 90) rfl ?_); refine goesL_ (some 22) rfl rfl Tryz.func90 zb10 rfl #[.string (rdOf ByteArray.empty t179 0), .string (⟨#[103, 101, 110, 101, 114, 97, 116, 105, 111, 110, 32]⟩ : ByteArray)] rfl zb3 ?_; (with_reducible refine (strings_TrimPrefix.calls (rdOf ByteArray.empty t179 0) (⟨#[103, 101, 110, 101, 114, 97, 116, 105, 111, 110, 32]⟩ : ByteArray) t183 _ A7.out).mono ?_); rintro e w' ⟨rfl, ⟨nd, rfl⟩⟩; refine ⟨_, rfl, ?_⟩) | ((with_reducible refine gate_callee (f := 89) rfl ?_); refine goesL_ (some 23) rfl rfl Tryz.func89 zb10 rfl #[.string t183] rfl zb3 ?_; (with_reducible refine (strconv_Atoi.calls t183 t184 (some q186) _ ?side1 A8.out).mono ?_); (case side1 => exact Glob.below hGA.out zb1); rintro e w42 ⟨pv43, hpv43, rfl, hb⟩; refine ⟨_, rfl, ?_⟩; obtain ⟨tpv43, ppv43, rfl⟩ := ErrIs.some_ hpv43; have n0_ := Aside0.mk (Kd.R_below (by (with_reducible repeat (first | apply Kd.R_alloc | apply Kd.R_drewN | apply Kd.R_drew)); exact HO181.out) hb); have n1_ := Aside0.mk (below_step zb1 hb); clear HO181; clear HB; have HO181 := n0_; have HB := n1_; clear n0_ n1_; (try clear hb); (try clear hb2); (try clear hk); (try clear hi); (try simp only [errW_none, errW_some]); have q44 : ((wrap64 ((t179.length : Int) - 2)) : Int) ≤ ((t179.length : Int) : Int) := of_decide_eq_true zb5; obtain ⟨i044, hi044, _, hsz44, _⟩ := info_parts info9; have hroom44 : t179.length ≤ co41 := (Kd.R_reads' HO181.out).2.1; have hC44 : Kd.F Kd.string _ _ (some ad182) t179.length t179 := (Kd.V_at (base := w.heap.size) (Kd.R_V HO181.out)).2.2; have ql44 : (1 : Int) ≤ ((wrap64 ((t179.length : Int) - 2)) : Int) := of_decide_eq_true zb5; have hcut44 := cut_mid (P := Tryz.prog) 41 9 .i64 .i64 Tryz.underlying41 hi044 1 hsz44 (some ad182) t179.length co41 1 (wrap64 ((t179.length : Int) - 2)) zb13 ql44 q44 hroom44; have hr44 := Kd.F_mid (lo := (1 : Int).toNat) (hi := ((wrap64 ((t179.length : Int) - 2)) : Int).toNat) (c := co41) hC44 zb13 zb13 hroom44; obtain ⟨A44, hA44⟩ : ∃ A1, A1 = (if co41 = (1 : Int).toNat then (some ad182) else ((some ad182) : Option Addr).map (·.add ((1 : Int).toNat * 1))) := ⟨_, rfl⟩; obtain ⟨c44, hc44⟩ : ∃ c1, c1 = co41 - (1 : Int).toNat := ⟨_, rfl⟩; have hy44 : y205.length = ((wrap64 ((t179.length : Int) - 2)) : Int).toNat - (1 : Int).toNat := (by rw [Ny205.out, List.length_drop, List.length_take] <;> omega); rw [show ((t179).take ((wrap64 ((t179.length : Int) - 2)) : Int).toNat).drop (1 : Int).toNat = y205 from Ny205.out.symm] at hr44; replace hr44 : Kd.F Kd.string _ _ A44 y205.length y205 := (by rw [hA44]; exact hr44); rw [← hy44, ← hA44, ← hc44] at hcut44; have HO209 := Aside0.mk (show Kd.V Kd.string 9 _ w.heap.size _ (.slice A44 y205.length c44) y205 from Kd.V_mk (by rw [hy44, hc44]; exact Nat.sub_le_sub_right (Nat.le_trans zb13 hroom44) _) hr44); have HC209 := Aside0.mk (show y205.length ≤ c44 from by rw [hy44, hc44]; exact Nat.sub_le_sub_right (Nat.le_trans zb13 hroom44) _); clear hr44 hC44 hroom44 hi044 hsz44 hc44; have KY44 := Aside0.mk hy44; have KA44 := Aside0.mk hA44; clear hy44 hA44; replace q44 := eq_true q44))
      first | go_loopg [2, 3, 32] k (fun kq v2 v3 v32 w' => ∃ (x2_1 : Int) (x3_1 : List (S120)) (x32_1 : Int), v2 = .int .i64 x2_1 ∧ v32 = .int .i64 x32_1 ∧ Aside0 (manifest_Parse.l0 kq a0 x2_1 x3_1 (some q186) y205 (y205.length : Int) x32_1 = some (r1, r2, r3)) ∧ Aside0 (kq ≤ k) ∧ Aside0 (Kd.R k120 120 w' w.heap.size (fun _ => True) v3 x3_1) ∧ Aside0 (Kd.V Kd.string 9 w' w.heap.size (fun k_ => some k_ ≠ (v3 : Value).ownBlock) (.slice A44 y205.length c44) y205) ∧ Aside0 (Below w.heap.size w w')) | (go_simp; go_loopg [2, 3, 32] k (fun kq v2 v3 v32 w' => ∃ (x2_1 : Int) (x3_1 : List (S120)) (x32_1 : Int), v2 = .int .i64 x2_1 ∧ v32 = .int .i64 x32_1 ∧ Aside0 (manifest_Parse.l0 kq a0 x2_1 x3_1 (some q186) y205 (y205.length : Int) x32_1 = some (r1, r2, r3)) ∧ Aside0 (kq ≤ k) ∧ Aside0 (Kd.R k120 120 w' w.heap.size (fun _ => True) v3 x3_1) ∧ Aside0 (Kd.V Kd.string 9 w' w.heap.size (fun k_ => some k_ ≠ (v3 : Value).ownBlock) (.slice A44 y205.length c44) y205) ∧ Aside0 (Below w.heap.size w w')))
      case atStart => exact ⟨(t184), (([] : List (S120))), (0), zb14, zb14, H', ⟨Nat.le_refl _⟩, ⟨by first | exact Kd.R_nil _ _ _ _ _ | exact Kd.N_nil _ _ _ _ _ | exact Kd.V_nil _ _ _ _ _ | exact Kd.Q_nil _ _ _ _ _ | exact Kd.S_nil _ _ _ _ _⟩, ⟨by (with_reducible repeat (first | apply Kd.V_alloc | apply Kd.V_drewN | apply Kd.V_drew)); exact Kd.V_mono HO209.out (fun _ hk => (by simp [Value.ownBlock]))⟩, ⟨by repeat (first | (with_reducible first | exact HB.out | apply below_alloc | apply pw_below_drewN | apply below_drew1) | exact HB.out)⟩⟩
      case round =>
       clear H'
       try clear c1
       try clear p1
       try clear q1
       try clear hx1
       try clear qi1
       try clear c2
       try clear p2
       try clear c3
       try clear c3b0
       try clear c3b1
       try clear c4
       try clear q4
       try clear c5
       try clear c6
       try clear c6b0
       try clear c6b1
       try clear p6
       try clear c8
       try clear c9
       try clear c9b0
       try clear c9b1
       try clear c10
       try clear c10b0
       try clear c10b1
       try clear c15
       try clear q15
       try clear c16
       try clear c16b0
       try clear c17
       try clear c17b0
       try clear c18
       try clear c18b0
       try clear p18
       try clear q18
       try clear hx18
       try clear qi18
       try clear p19
       try clear q19
       try clear hx19
       try clear c20
       try clear c21
       try clear c30
       try clear c30b0
       try clear c30b1
       try clear c31
       try clear c31b0
       try clear c31b1
       try clear c38
       try clear c38b0
       try clear c38b1
       try clear c39
       try clear c39b0
       try clear c39b1
       try clear c44
       try clear q44
       try clear hcz24_0
       try clear hcz24_1
       try clear hcz24_2
       try clear hcz24_3
       try clear hcz28_0
       try clear hcz28_1
       try clear hcz28_2
       try clear hcz28_3
       try clear hfz24_0
       try clear hfz24_1
       try clear hfz24_2
       try clear hfz24_3
       try clear hfz28_0
       try clear hfz28_1
       try clear hfz28_2
       try clear hfz28_3
       try clear hx182_0
       try clear hx192_0
       try clear p1
       try clear p182
       try clear p192
       try clear p2
       try clear p6
       try clear q1
       try clear q15
       try clear q182
       try clear q186
       try clear q192
       try clear q44
       obtain ⟨x2_1, x3_1, x32_1, rfl, rfl, HA, HK1, HO_3, HO_30, HB⟩ := hrel
       cases gk with
       | zero => exact absurd HA.out (by simp [manifest_Parse.l0])
       | succ k1 =>
        have H := HA.out
        clear HA
        simp only [manifest_Parse.l0] at H
        by_cases c45 : x32_1 < (y205.length : Int)
        ·rw [if_pos c45] at H
         have c45b0 : decide (x32_1 < (y205.length : Int)) = true := decide_eq_true c45
         clear c45
         by_cases c46 : 0 ≤ x32_1
         ·rw [if_pos c46] at H
          have c46b0 : decide (0 ≤ x32_1) = true := decide_eq_true c46
          clear c46
          by_cases c47 : x32_1 < (y205.length : Int)
          ·rw [if_pos c47] at H
           have c47b0 : decide (x32_1 < (y205.length : Int)) = true := decide_eq_true c47
           clear c47
           replace H := Option.bind_eq_some_iff.mp H
           obtain ⟨⟨t193, t194, t195, t196, t197⟩, A480, H⟩ := H
           replace H : (if t197 = true then (if x3_1.length < 2932031007402 then (manifest_Parse.l0 k1 a0 x2_1 (x3_1 ++ [(⟨t193, t194, t195, t196⟩ : S120)]) (some q186) y205 (y205.length : Int) (wrap64 (x32_1 + 1))) else (none)) else (some (0, ([] : List (S120)), 30))) = some (r1, r2, r3) := H
           have A48 := Aside0.mk A480
           clear A480
           by_cases c49 : t197 = true
           ·subst c49
            replace H : (if x3_1.length < 2932031007402 then (manifest_Parse.l0 k1 a0 x2_1 (x3_1 ++ [(⟨t193, t194, t195, t196⟩ : S120)]) (some q186) y205 (y205.length : Int) (wrap64 (x32_1 + 1))) else (none)) = some (r1, r2, r3) := by rw [if_pos rfl] at H; exact H
            by_cases c50 : x3_1.length < 2932031007402
            ·rw [if_pos c50] at H
             have LMc50 := Aside0.mk c50
             clear c50
             obtain ⟨y199, hy199⟩ : ∃ y_ : List (S120), y_ = (x3_1 ++ [(⟨t193, t194, t195, t196⟩ : S120)]) := ⟨_, rfl⟩
             replace H : (manifest_Parse.l0 k1 a0 x2_1 y199 (some q186) y205 (y205.length : Int) (wrap64 (x32_1 + 1))) = some (r1, r2, r3) := by first | (rw [hy199]; with_reducible exact H) | (have H2_ := (Option.bind_some _ _).symm.trans H; rw [hy199]; with_reducible exact H2_) | (have H2_ := (Option.bind_some _ _).symm.trans H; with_reducible exact H2_) | with_reducible exact H | (rw [hy199]; exact H) | exact H
             have Ny199 := Aside0.mk hy199
             clear hy199
             have H' := Aside0.mk H
             clear H
             have p192 : 0 ≤ (x32_1 : Int) := of_decide_eq_true zb5
             have q192 : x32_1 < (y205.length : Int) := of_decide_eq_true zb5
             obtain ⟨ad192, e192, hx192_0⟩ := Kd.at_string (Kd.V_reads' HO_30.out).2.2 x32_1 p192 q192
             cases e192
             replace p192 := eq_true p192
             replace q192 := eq_true q192
             go_wp2_with (first | ((with_reducible refine gate_callee (f := 91) rfl ?_); refine goesL_ (some 38) rfl rfl Tryz.func91 zb10 rfl #[.string (rdOf ByteArray.empty y205 x32_1)] rfl zb3 ?_; (with_reducible refine (manifest_row.calls (rdOf ByteArray.empty y205 x32_1) t193 t194 t195 t196 true _ ?side1 A48.out).mono ?_); (case side1 => exact Glob.below hGA.out zb1); rintro e w51 ⟨rfl, hb⟩; refine ⟨_, rfl, ?_⟩; have n0_ := Aside0.mk (Kd.R_below zb21 hb); have n1_ := Aside0.mk (Kd.V_below zb19 hb); have n2_ := Aside0.mk (below_step zb1 hb); clear HO_3; clear HO_30; clear HB; have HO_3 := n0_; have HO_30 := n1_; have HB := n2_; clear n0_ n1_ n2_; (try clear hb); (try clear hb2); (try clear hk); (try clear hi)) | ((with_reducible refine gate_dst (N := 9) rfl ?_); refine box_event ?hg (N := 9) ?hd (cs := #[.string (⟨#[]⟩ : ByteArray), .string (⟨#[]⟩ : ByteArray), .int .i64 0, .int .i64 0]) (t := 120) ?hr ?_; (case hd => rfl); (case hg => rfl); (case hr => first | (go_simp; done) | (go_simp; rfl)); intro gb198 hg w52 hbox hb; have n0_ := Aside0.mk (Kd.R_below (Kd.R_elderB zb21 gb198 (Nat.le_of_eq hg.symm)) hb); have n1_ := Aside0.mk (Kd.V_below (Kd.V_elderB zb19 gb198 (Nat.le_of_eq hg.symm)) hb); have n2_ := Aside0.mk (below_step zb1 hb); have n3_ := Aside0.mk (hbox); have n4_ := Aside0.mk ((by rw [hg]; exact (below_size zb1) : w.heap.size ≤ gb198)); have n5_ := Aside0.mk ((by rw [hg]; exact (below_size zb1) : w.heap.size ≤ gb198)); clear HO_3; clear HO_30; clear HB; have HO_3 := n0_; have HO_30 := n1_; have HB := n2_; have BK198 := n3_; have GW198 := n4_; have GE198 := n5_; clear n0_ n1_ n2_ n3_ n4_ n5_; clear hb hbox hg; have hcz53_0 : w52.cell? ⟨gb198, 0, none⟩ = some (.string (⟨#[]⟩ : ByteArray)) := (blk_cell BK198.out 0).trans rfl; have hcz53_1 : w52.cell? ⟨gb198, 1, none⟩ = some (.string (⟨#[]⟩ : ByteArray)) := (blk_cell BK198.out 1).trans rfl; have hcz53_2 : w52.cell? ⟨gb198, 2, none⟩ = some (.int .i64 0) := (blk_cell BK198.out 2).trans rfl; have hcz53_3 : w52.cell? ⟨gb198, 3, none⟩ = some (.int .i64 0) := (blk_cell BK198.out 3).trans rfl; have hfz53_0 := blk_frozen BK198.out 0; have hfz53_1 := blk_frozen BK198.out 1; have hfz53_2 := blk_frozen BK198.out 2; have hfz53_3 := blk_frozen BK198.out 3) | ((with_reducible refine gate_builtin (b := .append) (xs := #[.tmp 43, .tmp 45]) rfl ?_); at_builtin; refine Kd.R_append k120 (w0 := w) w.heap.size rfl (.tmp 43) (.tmp 45) 100 120 (.agg #[(.string ⟨#[]⟩), (.string ⟨#[]⟩), (.int .i64 0), (.int .i64 0)]) 48 rfl Tryz.underlying100 info120 rfl zb25 zb13 u3 x3_1 (⟨t193, t194, t195, t196⟩ : S120) [.string t193, .string t194, .int .i64 t195, .int .i64 t196] (fun k_ => k_ ≠ gb198) (fun _ => False) rfl (by first | (go_simp; done) | (go_simp; rfl)) ?aP (fun _ hk => hk.elim) ?aF ?aO ?aB ?aS ?aL ?_; (case aP => exact k120_mkM _ _ _ (⟨t193, t194, t195, t196⟩ : S120)); (case aB => exact zb26); (case aF => exact (fun k_ hk => Kd.freshB (g := gb198) (o := .cells #[.string t193, .string t194, .int .i64 t195, .int .i64 t196] 120 (0, 0)) zb9 k_ hk)); (case aO => exact zb34); (case aS => exact (below_size zb26)); (case aL => have := LMc50.out; omega); intro v200 w54 ho hb hg hat; rw [← Ny199.out] at ho; have n0_ := Aside0.mk (Kd.V_afterv (ok := (fun k_ => k_ ≠ gb198)) zb33 hg hat); have n1_ := Aside0.mk (blk_grown (g := gb198) (o := .cells #[.string t193, .string t194, .int .i64 t195, .int .i64 t196] 120 (0, 0)) zb9 hg (Kd.R_away HO_3.out (fun _ hk => hk.2))); have n2_ := Aside0.mk (hb); have n3_ := Aside0.mk (ho); clear HO_30; clear BK198; clear HB; clear HO_3; have HO_30 := n0_; have BK198 := n1_; have HB := n2_; have HO201 := n3_; clear n0_ n1_ n2_ n3_; clear ho hb hg hat))
             go_roundg k1
             case measure => have := HK1.out; omega
             case rel => exact ⟨(x2_1), (y199), (wrap64 (x32_1 + 1)), zb14, zb14, H', ⟨by have := HK1.out; omega⟩, ⟨by (with_reducible repeat (first | apply Kd.R_alloc | apply Kd.R_drewN | apply Kd.R_drew)); exact Kd.R_mono HO201.out (fun _ hk => trivial)⟩, ⟨by (with_reducible repeat (first | apply Kd.V_alloc | apply Kd.V_drewN | apply Kd.V_drew)); exact Kd.V_mono HO_30.out (fun _ hk => hk.2)⟩, ⟨by repeat (first | (with_reducible first | exact HB.out | apply below_alloc | apply pw_below_drewN | apply below_drew1 | refine below_set ?_ GE198.out) | exact HB.out)⟩⟩
            ·rw [if_neg c50] at H
             exact absurd H zb35
           ·replace c49 := Bool.eq_false_iff.mpr c49
            subst c49
            replace H : (some (0, ([] : List (S120)), 30)) = some (r1, r2, r3) := by rw [if_neg (show ¬ (false = true) by decide)] at H; exact H
            simp only [Option.some.injEq, Prod.mk.injEq] at H
            obtain ⟨rfl, rfl, rfl⟩ := H
            have p192 : 0 ≤ (x32_1 : Int) := of_decide_eq_true zb5
            have q192 : x32_1 < (y205.length : Int) := of_decide_eq_true zb5
            obtain ⟨ad192, e192, hx192_0⟩ := Kd.at_string (Kd.V_reads' HO_30.out).2.2 x32_1 p192 q192
            cases e192
            replace p192 := eq_true p192
            replace q192 := eq_true q192
            go_wp2_with (first | ((with_reducible refine gate_callee (f := 91) rfl ?_); refine goesL_ (some 38) rfl rfl Tryz.func91 zb10 rfl #[.string (rdOf ByteArray.empty y205 x32_1)] rfl zb3 ?_; (with_reducible refine (manifest_row.calls (rdOf ByteArray.empty y205 x32_1) t193 t194 t195 t196 false _ ?side1 A48.out).mono ?_); (case side1 => exact Glob.below hGA.out zb1); rintro e w55 ⟨rfl, hb⟩; refine ⟨_, rfl, ?_⟩; have n0_ := Aside0.mk (Kd.R_below zb21 hb); have n1_ := Aside0.mk (Kd.V_below zb19 hb); have n2_ := Aside0.mk (below_step zb1 hb); clear HO_3; clear HO_30; clear HB; have HO_3 := n0_; have HO_30 := n1_; have HB := n2_; clear n0_ n1_ n2_; (try clear hb); (try clear hb2); (try clear hk); (try clear hi)) | ((with_reducible refine gate_dst (N := 9) rfl ?_); refine box_event ?hg (N := 9) ?hd (cs := #[.string (⟨#[]⟩ : ByteArray), .string (⟨#[]⟩ : ByteArray), .int .i64 0, .int .i64 0]) (t := 120) ?hr ?_; (case hd => rfl); (case hg => rfl); (case hr => first | (go_simp; done) | (go_simp; rfl)); intro gb198 hg w56 hbox hb; have n0_ := Aside0.mk (Kd.R_below (Kd.R_elderB zb21 gb198 (Nat.le_of_eq hg.symm)) hb); have n1_ := Aside0.mk (Kd.V_below (Kd.V_elderB zb19 gb198 (Nat.le_of_eq hg.symm)) hb); have n2_ := Aside0.mk (below_step zb1 hb); have n3_ := Aside0.mk (hbox); have n4_ := Aside0.mk ((by rw [hg]; exact (below_size zb1) : w.heap.size ≤ gb198)); have n5_ := Aside0.mk ((by rw [hg]; exact (below_size zb1) : w.heap.size ≤ gb198)); clear HO_3; clear HO_30; clear HB; have HO_3 := n0_; have HO_30 := n1_; have HB := n2_; have BK198 := n3_; have GW198 := n4_; have GE198 := n5_; clear n0_ n1_ n2_ n3_ n4_ n5_; clear hb hbox hg; have hcz57_0 : w56.cell? ⟨gb198, 0, none⟩ = some (.string (⟨#[]⟩ : ByteArray)) := (blk_cell BK198.out 0).trans rfl; have hcz57_1 : w56.cell? ⟨gb198, 1, none⟩ = some (.string (⟨#[]⟩ : ByteArray)) := (blk_cell BK198.out 1).trans rfl; have hcz57_2 : w56.cell? ⟨gb198, 2, none⟩ = some (.int .i64 0) := (blk_cell BK198.out 2).trans rfl; have hcz57_3 : w56.cell? ⟨gb198, 3, none⟩ = some (.int .i64 0) := (blk_cell BK198.out 3).trans rfl; have hfz57_0 := blk_frozen BK198.out 0; have hfz57_1 := blk_frozen BK198.out 1; have hfz57_2 := blk_frozen BK198.out 2; have hfz57_3 := blk_frozen BK198.out 3))
            go_ret3
            exact ⟨_, by first | rfl | (simp [errW_none, errW_some, bne_nil_] <;> rfl) | (simp [*, errW_none, errW_some] <;> rfl), by first | exact Kd.R_nil _ _ _ _ _ | exact Kd.N_nil _ _ _ _ _ | exact Kd.V_nil _ _ _ _ _ | exact Kd.Q_nil _ _ _ _ _ | exact Kd.S_nil _ _ _ _ _, zb26⟩
          ·rw [if_neg c47] at H
           exact absurd H zb35
         ·rw [if_neg c46] at H
          exact absurd H zb35
        ·rw [if_neg c45] at H
         have c45b0 : decide (x32_1 < (y205.length : Int)) = false := decide_eq_false c45
         clear c45
         replace H := Option.bind_eq_some_iff.mp H
         obtain ⟨⟨t202, t203⟩, A580, H⟩ := H
         replace H : (if (some q186).isNone = true then (if t203 = 0 then (if t202.toList = a0.toList then (some (x2_1, x3_1, 0)) else (some (0, ([] : List (S120)), 30))) else (some (0, ([] : List (S120)), 30))) else (some (0, ([] : List (S120)), 30))) = some (r1, r2, r3) := H
         have A58 := Aside0.mk A580
         clear A580
         replace H : (some (0, ([] : List (S120)), 30)) = some (r1, r2, r3) := by rw [if_neg (show ¬ (some _ : Option Int).isNone = true by simp)] at H; exact H
         simp only [Option.some.injEq, Prod.mk.injEq] at H
         obtain ⟨rfl, rfl, rfl⟩ := H
         obtain ⟨Ao59, co59, eo59⟩ := Kd.R_slice HO_3.out
         subst eo59
         go_wp2_with (first | ((with_reducible refine gate_callee (f := 63) rfl ?_); refine goesL_ (some 51) rfl rfl Tryz.func63 zb10 rfl #[.int .i64 x2_1, .slice Ao59 x3_1.length co59] rfl zb3 ?_; (with_reducible refine (manifest_Print.calls k1 x2_1 _ _ x3_1 t202 t203 _ ?side1 ?side2 ?side3 A58.out).mono ?_); (case side1 => repeat (first | exact (Kd.R_reads' HO_3.out).2.2 | (with_reducible refine Kd.C_alloc ?_ _) | (with_reducible refine Kd.C_drewN ?_ _) | (with_reducible refine Kd.C_drew ?_))); (case side2 => exact (Kd.R_reads' HO_3.out).2.1); (case side3 => exact Glob.below hGA.out zb1); rintro e w60 ⟨rfl, hb⟩; refine ⟨_, rfl, ?_⟩; have n0_ := Aside0.mk (Kd.R_below zb21 hb); have n1_ := Aside0.mk (Kd.V_below zb19 hb); have n2_ := Aside0.mk (below_step zb1 hb); clear HO_3; clear HO_30; clear HB; have HO_3 := n0_; have HO_30 := n1_; have HB := n2_; clear n0_ n1_ n2_; (try clear hb); (try clear hb2); (try clear hk); (try clear hi)))
         go_ret3
         exact ⟨_, by first | rfl | (simp [errW_none, errW_some, bne_nil_] <;> rfl) | (simp [*, errW_none, errW_some] <;> rfl), by first | exact Kd.R_nil _ _ _ _ _ | exact Kd.N_nil _ _ _ _ _ | exact Kd.V_nil _ _ _ _ _ | exact Kd.Q_nil _ _ _ _ _ | exact Kd.S_nil _ _ _ _ _, zb1⟩
     ·rw [if_neg c39] at H
      exact absurd H zb35
    ·rw [if_neg c38] at H
     exact absurd H zb35
  ·rw [if_neg c6] at H
   exact absurd H zb35
end Go.Proofs.YtfpbpakgajddnaaGreatDoor.P
/- AdA -/
namespace Go.Proofs.YtfpbpakgajddnaaGreatDoor.Ad
open Go.RowKit Go.Proofs.YtfpbpakgajddnaaGreatDoorW.PrintWords Go.Proofs.YtfpbpakgajddnaaGreatDoorW.PrintLast Go.Proofs.YtfpbpakgajddnaaGreatDoor.O
set_option linter.unusedVariables false
set_option linter.unusedSimpArgs false
theorem wrap_id {x : Int} (h0 : -9223372036854775808 ≤ x) (h1 : x ≤ 9223372036854775807) : wrap64 x = x := by unfold wrap64; omega
theorem adler_some (s : ByteArray) (h : s.size ≤ 9223372036854775807) : adler_Sum.f s = some ((adS s s.size).2 * 65536 + (adS s s.size).1) := by
 unfold adler_Sum.f
 rw [if_pos h]
end Go.Proofs.YtfpbpakgajddnaaGreatDoor.Ad
/- ManA -/
namespace Go.Proofs.YtfpbpakgajddnaaGreatDoor.Mn
open Go.RowKit Go.Proofs.YtfpbpakgajddnaaGreatDoorW.PrintWords Go.Proofs.YtfpbpakgajddnaaGreatDoorW.PrintLast Go.Proofs.YtfpbpakgajddnaaGreatDoor.O Go.Proofs.YtfpbpakgajddnaaGreatDoor.Ad
set_option linter.unusedVariables false
set_option linter.unusedSimpArgs false
abbrev L := List UInt8
def cut (c : UInt8) : L → List L
  | [] => [[]]
  | x :: r => if x = c then [] :: cut c r else match cut c r with
    | [] => [[x]]
    | y :: z => (x :: y) :: z
theorem cut_ne (c : UInt8) (l : L) : cut c l ≠ [] := by
 cases l with
 | nil => simp [cut]
 | cons x r =>
  unfold cut
  split
  ·simp
  ·split <;> simp
theorem cut_eq (c : UInt8) (r : L) : cut c (c :: r) = [] :: cut c r := by simp [cut]
theorem cut_other (c x : UInt8) (r : L) (h : x ≠ c) : ∃ y z, cut c r = y :: z ∧ cut c (x :: r) = (x :: y) :: z := by
 cases e : cut c r with
 | nil => exact absurd e (cut_ne c r)
 | cons y z => exact ⟨y, z, rfl, by simp [cut, h, e]⟩
theorem cut_none (c : UInt8) : ∀ (a : L), c ∉ a → cut c a = [a]
 | [], _ => rfl
 | x :: a, h => by
  obtain ⟨y, z, e1, e2⟩ := cut_other c x a (fun e => h (by simp [e]))
  rw [cut_none c a (fun e => h (by simp [e]))] at e1
  obtain ⟨rfl, rfl⟩ := List.cons.inj e1
  exact e2
theorem cut_app (c : UInt8) (b : L) : ∀ (a : L), c ∉ a → cut c (a ++ c :: b) = a :: cut c b
 | [], _ => cut_eq c b
 | x :: a, h => by
  obtain ⟨y, z, e1, e2⟩ := cut_other c x (a ++ c :: b) (fun e => h (by simp [e]))
  rw [cut_app c b a (fun e => h (by simp [e]))] at e1
  obtain ⟨rfl, rfl⟩ := List.cons.inj e1
  exact e2
theorem cut_len (c : UInt8) : ∀ (a : L), (cut c a).length ≤ a.length + 1
 | [] => by simp [cut]
 | x :: a => by
  have ih := cut_len c a
  by_cases h : x = c
  ·subst h
   rw [cut_eq]
   simp only [List.length_cons]
   omega
  ·obtain ⟨y, z, e1, e2⟩ := cut_other c x a h
   rw [e2]
   rw [e1] at ih
   simp only [List.length_cons] at ih ⊢
   omega
theorem cut_part (c : UInt8) : ∀ (a : L), ∀ p ∈ cut c a, p.length ≤ a.length
 | [] => by simp [cut]
 | x :: a => by
  have ih := cut_part c a
  intro p hp
  by_cases h : x = c
  ·subst h
   rw [cut_eq] at hp
   rcases List.mem_cons.1 hp with rfl | hp
   ·simp
   ·have := ih p hp
    simp only [List.length_cons]
    omega
  ·obtain ⟨y, z, e1, e2⟩ := cut_other c x a h
   rw [e2] at hp
   rw [e1] at ih
   rcases List.mem_cons.1 hp with rfl | hp
   ·have := ih y zb35
    simp only [List.length_cons]
    omega
   ·have := ih p (by simp [hp])
    simp only [List.length_cons]
    omega
theorem index_eq (c : UInt8) (r : L) : Lib.index (c :: r) [c] = 0 := by simp [Lib.index, List.isPrefixOf]
theorem index_other (c x : UInt8) (r : L) (h : x ≠ c) : Lib.index (x :: r) [c] = if Lib.index r [c] == -1 then -1 else Lib.index r [c] + 1 := by
 have h' : (c == x) = false := by simpa using fun e : c = x => h e.symm
 simp [Lib.index, List.isPrefixOf, h']
theorem splitK_eq (c : UInt8) (k : Nat) (r : L) : Lib.splitK [c] 0 (k + 1) (c :: r) = [] :: Lib.splitK [c] 0 k r := by
 simp [Lib.splitK, index_eq]
theorem splitK_other (c x : UInt8) (h : x ≠ c) (k : Nat) (r : L) : ∃ y z, Lib.splitK [c] 0 k r = y :: z ∧ Lib.splitK [c] 0 k (x :: r) = (x :: y) :: z := by
 cases k with
 | zero => exact ⟨r, [], rfl, rfl⟩
 | succ k =>
  have e := index_other c x r h
  by_cases hi : Lib.index r [c] = -1
  ·rw [hi] at e
   refine ⟨r, [], ?_, ?_⟩ <;> simp [Lib.splitK, hi, e]
  ·have hb : (Lib.index r [c] == -1) = false := by simpa using hi
   rw [hb, if_neg zb25] at e
   have hge := Lib.index_ge r [c]
   have hn : (Lib.index r [c] + 1 == -1) = false := by simp; omega
   have ht : (Lib.index r [c] + 1).toNat = (Lib.index r [c]).toNat + 1 := by omega
   refine ⟨_, _, by rw [Lib.splitK, hb, if_neg zb25], ?_⟩
   rw [Lib.splitK, e, hn, if_neg zb25, ht]
   simp
theorem splitK_cut (c : UInt8) : ∀ s : L, Lib.splitK [c] 0 (s.count c) s = cut c s
 | [] => rfl
 | x :: r => by
  have ih := splitK_cut c r
  by_cases h : x = c
  ·subst h
   rw [List.count_cons_self, splitK_eq, ih, cut_eq]
  ·rw [List.count_cons_of_ne h]
   obtain ⟨y, z, e1, e2⟩ := splitK_other c x h (r.count c) r
   obtain ⟨y', z', e3, e4⟩ := cut_other c x r h
   rw [e2, e4]
   rw [ih, e3] at e1
   obtain ⟨rfl, rfl⟩ := List.cons.inj e1
   rfl
theorem split_cut (c : UInt8) (s : ByteArray) : (Lib.splitB ⟨#[c]⟩ 0 (Lib.countB s ⟨#[c]⟩) s).map (·.data.toList) = cut c s.data.toList := by
 rw [Lib.splitB_data]
 have e : Lib.countB s ⟨#[c]⟩ = s.data.toList.count c := Lib.count_one c s.data.toList
 rw [e]
 exact splitK_cut c _
theorem dg_lt (u : Nat) (h : u < 10) : (UInt8.ofNat (48 + u)).toNat = 48 + u := by
 rw [UInt8.toNat_ofNat']; omega
theorem dec_mem (u : Nat) : ∀ c ∈ Lib.decDigits u, 48 ≤ c.toNat ∧ c.toNat ≤ 57 := by
 induction u using Nat.strongRecOn with
 | _ u ih =>
  intro c hc
  rw [Lib.decDigits] at hc
  split at hc
  ·rename_i h
   obtain rfl := List.mem_singleton.1 hc
   rw [dg_lt u h]; omega
  ·rename_i h
   rcases List.mem_append.1 hc with hc | hc
   ·exact ih (u / 10) zb13 c hc
   ·obtain rfl := List.mem_singleton.1 hc
    rw [dg_lt _ zb13]; omega
theorem dec_ne (u : Nat) : Lib.decDigits u ≠ [] := by
 rw [Lib.decDigits]
 split <;> simp
theorem dec_len (k : Nat) : ∀ u, u < 10 ^ (k + 1) → (Lib.decDigits u).length ≤ k + 1 := by
 induction k with
 | zero =>
  intro u h
  rw [Lib.decDigits, dif_pos zb13]
  simp
 | succ k ih =>
  intro u h
  rw [Lib.decDigits]
  split
  ·simp
  ·have := ih (u / 10) (by rw [Nat.pow_succ] at h; omega)
   simp only [List.length_append, List.length_singleton]
   omega
theorem parse_dec (u : Nat) : u < 18446744073709551616 → ∀ rest, Lib.parseUint10 0 (Lib.decDigits u ++ rest) = Lib.parseUint10 u rest := by
 induction u using Nat.strongRecOn with
 | _ u ih =>
  intro hu rest
  rw [Lib.decDigits]
  split
  ·rename_i h
   have e := dg_lt u h
   simp only [List.singleton_append, Lib.parseUint10, e]
   rw [if_pos zb13, if_neg zb13, if_neg zb13]
   congr 1
   omega
  ·rename_i h
   have e := dg_lt (u % 10) zb13
   rw [List.append_assoc, ih (u / 10) zb13 zb13]
   simp only [List.singleton_append, Lib.parseUint10, e]
   rw [if_pos zb13, if_neg zb13, if_neg zb13]
   congr 1
   omega
theorem atoi_dec (u : Nat) (h : u < 9223372036854775808) : atoiF (Lib.decDigits u) = ((u : Int), none) := by
 have key : Lib.parseUint10 0 (Lib.decDigits u) = .ok u := by
  have := parse_dec u zb13 []
  rw [List.append_nil] at this
  rw [this]; rfl
 have e : Lib.atoiAll (Lib.decDigits u) = .ok (u : Int) := by
  have hm := dec_mem u
  have hne := dec_ne u
  generalize Lib.decDigits u = l at *
  cases l with
  | nil => exact absurd rfl hne
  | cons c r =>
   obtain ⟨h1, h2⟩ := hm c zb35
   have hp : Lib.parseMag (c :: r) = .ok u := by
    rw [Lib.parseMag, if_neg zb35, key]
   rw [Lib.atoiAll_plain c r zb13 zb13, hp, Lib.signless, if_neg zb13]
 simp [atoiF, e]
def dec (n : Int) : L := Lib.decDigits n.toNat
theorem itoa_dec (n : Int) (h : 0 ≤ n) : Lib.itoa n = dec n := by
 unfold Lib.itoa dec
 rw [if_neg zb13]
def chOk (c : UInt8) : Bool := decide (48 ≤ c.toNat) && decide (c.toNat ≤ 57) || decide (97 ≤ c.toNat) && decide (c.toNat ≤ 122) || c.toNat == 46 || c.toNat == 45
def nmOk (s : ByteArray) : Bool := !(decide (s.size = 0)) && decide (s.size ≤ 32) && s.data.toList.all chOk
end Go.Proofs.YtfpbpakgajddnaaGreatDoor.Mn
/- ManB -/
namespace Go.Proofs.YtfpbpakgajddnaaGreatDoor.Mn
open Go.RowKit Go.Proofs.YtfpbpakgajddnaaGreatDoor.P Go.Proofs.YtfpbpakgajddnaaGreatDoorW.PrintWords Go.Proofs.YtfpbpakgajddnaaGreatDoorW.PrintLast Go.Proofs.YtfpbpakgajddnaaGreatDoor.O Go.Proofs.YtfpbpakgajddnaaGreatDoor.Ad
set_option linter.unusedVariables false
set_option linter.unusedSimpArgs false
def mk (l : L) : ByteArray := ⟨l.toArray⟩
theorem mk_data (l : L) : (mk l).data.toList = l := by simp [mk]
theorem mk_self (s : ByteArray) : mk s.data.toList = s := by cases s; simp [mk]
theorem ba_ext {a b : ByteArray} (h : a.data.toList = b.data.toList) : a = b := by rw [← mk_self a, ← mk_self b, h]
theorem mk_size (l : L) : (mk l).size = l.length := by rw [Lib.size_eq, mk_data]
theorem mk_append (a b : L) : mk a ++ mk b = mk (a ++ b) := ba_ext (by simp [mk_data])
theorem tl (s : ByteArray) : s.toList = s.data.toList := Lib.toList_data s
theorem lits : (⟨#[]⟩ : ByteArray) = mk [] ∧ (⟨#[32]⟩ : ByteArray) = mk [32] ∧ (⟨#[10]⟩ : ByteArray) = mk [10] := ⟨rfl, rfl, rfl⟩
theorem drop_bt (s : ByteArray) (i : Nat) (h : i < s.size) : ∃ b : UInt8, s.data.toList.drop i = b :: s.data.toList.drop (i + 1) ∧ bt s i = b.toNat ∧ s[i]'h = b := by
 have h' : i < s.data.toList.length := by rw [← Lib.size_eq]; exact h
 refine ⟨s.data.toList[i], List.drop_eq_getElem_cons h', ?_, ?_⟩
 ·rw [← bt_getD s i h, List.getD_eq_getElem?_getD, List.getElem?_eq_getElem h']
  rfl
 ·rw [Array.getElem_toList]
  rfl
theorem odd_ch (b : UInt8) : oddP b.toNat = !chOk b := rfl
theorem odd_high (x : Nat) (h : 128 ≤ x) : oddP x = true := by
 unfold oddP
 simp
 omega
theorem ch_low (b : UInt8) (h : chOk b = true) : b.toNat < 128 := by
 rcases Nat.lt_or_ge b.toNat 128 with h1 | h1
 ·exact h1
 ·have := odd_high _ h1
  rw [odd_ch, h] at this
  simp at this
theorem idx_all (s : ByteArray) : ∀ (f pos : Nat), s.size - pos ≤ f → (Lib.idxFuncFrom oddP true s f pos = -1 ↔ (s.data.toList.drop pos).all chOk = true)
 | f, pos, hf => by
  by_cases hp : pos < s.size
  ·obtain ⟨b, e1, e2, e3⟩ := drop_bt s pos hp
   cases f with
   | zero => omega
   | succ f =>
    unfold Lib.idxFuncFrom
    rw [if_pos hp, e1, List.all_cons]
    by_cases ha : b.toNat < 128
    ·have hd := decode_ascii s pos hp (by rw [e3]; exact ha)
     rw [e3] at hd
     rw [hd, odd_ch]
     cases hc : chOk b with
     | true =>
      rw [if_neg zb25]
      rw [idx_all s f (pos + 1) zb13]
      simp
     | false =>
      rw [if_pos zb25]
      simp
    ·have hd := decode_high s pos hp (by rw [e3]; omega)
     rw [if_pos (odd_high _ hd.1)]
     have : chOk b = false := by
      cases hc : chOk b with
      | true => exact absurd (ch_low b hc) ha
      | false => rfl
     rw [this]
     simp
  ·rw [Lib.idxFuncFrom_end _ _ _ _ _ hp, List.drop_eq_nil_of_le (by rw [← Lib.size_eq]; omega)]
   simp
theorem name_eq (a : ByteArray) : manifest_name.f a = some (nmOk a) := by
 unfold manifest_name.f nmOk
 by_cases h0 : a.size = 0
 ·simp [h0]
 by_cases h1 : 32 < a.size
 ·have : ¬ a.size ≤ 32 := by omega
  simp [h0, h1, this]
 have h2 : a.size ≤ 32 := by omega
 rw [if_neg h0, if_neg h1]
 have key := idx_all a a.size 0 zb13
 rw [List.drop_zero] at key
 have hr := Lib.idxFunc_range oddP true a
 unfold Lib.idxFunc at hr ⊢
 have : (!decide (0 ≤ Lib.idxFuncFrom oddP true a a.size 0)) = a.data.toList.all chOk := by
  rw [Bool.eq_iff_iff, ← key]
  simp
  omega
 rw [this]
 simp [h0, h2]
def numOk (n : Int) : Bool := decide (0 ≤ n) && decide (n ≤ 1099511627776)
theorem near_l0 (l : List Int) (hl : l.length ≤ 1000000) : ∀ (d k i : Nat), i + d = l.length → d < k → manifest_near.l0 k l l.length i = some ((l.drop i).all numOk) := by
 intro d
 induction d with
 | zero =>
  intro k i hi hk
  obtain ⟨k, rfl⟩ : ∃ k', k = k' + 1 := ⟨k - 1, by omega⟩
  rw [manifest_near.l0, if_neg zb13, List.drop_eq_nil_of_le zb13]
  rfl
 | succ d ih =>
  intro k i hi hk
  obtain ⟨k, rfl⟩ : ∃ k', k = k' + 1 := ⟨k - 1, by omega⟩
  have hI := ih k (i + 1) zb13 zb13
  have hw : wrap64 ((i : Int) + 1) = ((i + 1 : Nat) : Int) := by rw [wrap_id zb13 zb13]; omega
  have hd := List.drop_eq_getElem_cons (l := l) (i := i) zb13
  have hr : rd l (i : Int) = l[i]'zb13 := by simp [rd, List.getD_eq_getElem?_getD, List.getElem?_eq_getElem (show i < l.length by omega)]
  rw [manifest_near.l0, if_pos zb13, if_pos zb13, if_pos zb13, hw, hI, hr, hd, List.all_cons]
  generalize l[i]'zb13 = x
  generalize (l.drop (i + 1)).all numOk = q
  unfold numOk
  by_cases h1 : x < 0
  ·have : ¬ 0 ≤ x := by omega
   simp [h1, this]
  by_cases h2 : x > 1099511627776
  ·have : ¬ x ≤ 1099511627776 := by omega
   simp [h1, h2, this]
  ·have h3 : 0 ≤ x := by omega
   have h4 : x ≤ 1099511627776 := by omega
   simp [h1, h2, h3, h4]
theorem near_eq (l : List Int) (k : Nat) (hl : l.length ≤ 1000000) (hk : l.length < k) : manifest_near.f k l = some (l.all numOk) := by
 have := near_l0 l hl l.length k 0 zb13 hk
 rwa [List.drop_zero] at this
theorem dec_len13 (n : Int) (h : numOk n = true) : (dec n).length ≤ 13 := by
 unfold numOk at h
 simp at h
 exact dec_len 12 n.toNat zb13
theorem dec_len19 (n : Int) (h0 : 0 ≤ n) (h : n < 9223372036854775808) : (dec n).length ≤ 19 := dec_len 18 n.toNat zb13
theorem itoaF (n : Int) (h0 : 0 ≤ n) (h : n < 9223372036854775808) : strconv_Itoa.f n = some (mk (dec n)) := by
 unfold strconv_Itoa.f
 rw [if_pos zb13, itoa_dec n h0]
 rfl
theorem join2 (a b : L) : Lib.join [a, b] [32] = a ++ 32 :: b := by simp [Lib.join_cons, Lib.joinTail]
theorem join4 (a b c d : L) : Lib.join [a, b, c, d] [32] = a ++ 32 :: b ++ 32 :: c ++ 32 :: d := by simp [Lib.join_cons, Lib.joinTail]
theorem w01 : wrap64 (0 + 1) = 1 := wrap_id zb13 zb13
theorem w11 : wrap64 (1 + 1) = 2 := wrap_id zb13 zb13
theorem line1 (w : L) (n : Int) (k : Nat) (hk : 3 ≤ k) (hw : w.length ≤ 1000) (h0 : 0 ≤ n) (h : n < 9223372036854775808) :
  manifest_line.f k [mk w] [n] = some (mk (w ++ 32 :: dec n ++ [10])) := by
 obtain ⟨k, rfl⟩ : ∃ k', k = k' + 2 := ⟨k - 2, by omega⟩
 have hl := dec_len19 n h0 h
 have hj : joinB [mk w, mk (dec n)] ⟨#[32]⟩ = w ++ 32 :: dec n := by
  unfold joinB
  simp only [List.map_cons, List.map_nil, mk_data]
  exact join2 _ _
 unfold manifest_line.f
 simp only [manifest_line.l0, List.length_cons, List.length_nil, w01, w11]
 rw [if_pos zb25, if_pos zb25, if_pos zb25]
 rw [show rd [n] 0 = n from rfl, itoaF n h0 h]
 simp only [Option.bind_some]
 rw [if_pos zb25, if_neg zb25]
 simp only [List.cons_append, List.nil_append]
 rw [strings_Join.f, hj, if_pos ⟨by simp, by simp; omega⟩]
 simp only [Option.bind_some]
 have e : (⟨(w ++ 32 :: dec n).toArray⟩ : ByteArray) = mk (w ++ 32 :: dec n) := rfl
 rw [e, mk_size, if_pos zb41, lits.2.2, mk_append]
theorem line2 (a b : L) (n m : Int) (k : Nat) (hk : 4 ≤ k) (ha : a.length ≤ 1000) (hb : b.length ≤ 1000) (h0 : 0 ≤ n) (h : n < 9223372036854775808) (h0' : 0 ≤ m) (h' : m < 9223372036854775808) :
  manifest_line.f k [mk a, mk b] [n, m] = some (mk (a ++ 32 :: b ++ 32 :: dec n ++ 32 :: dec m ++ [10])) := by
 obtain ⟨k, rfl⟩ : ∃ k', k = k' + 3 := ⟨k - 3, by omega⟩
 have hl := dec_len19 n h0 h
 have hl' := dec_len19 m h0' h'
 have hj : joinB [mk a, mk b, mk (dec n), mk (dec m)] ⟨#[32]⟩ = a ++ 32 :: b ++ 32 :: dec n ++ 32 :: dec m := by
  unfold joinB
  simp only [List.map_cons, List.map_nil, mk_data]
  exact join4 _ _ _ _
 unfold manifest_line.f
 simp only [manifest_line.l0, List.length_cons, List.length_nil, w01, w11]
 rw [if_pos zb25, if_pos zb25, if_pos zb25]
 rw [show rd [n, m] 0 = n from rfl, itoaF n h0 h]
 simp only [Option.bind_some]
 rw [if_pos zb25, if_pos zb25, if_pos zb25, if_pos zb25]
 rw [show rd [n, m] 1 = m from rfl, itoaF m h0' h']
 simp only [Option.bind_some]
 rw [if_pos zb35, if_neg zb25]
 simp only [List.cons_append, List.nil_append]
 rw [strings_Join.f, hj, if_pos ⟨by simp, by simp; omega⟩]
 simp only [Option.bind_some]
 have e : (⟨(a ++ 32 :: b ++ 32 :: dec n ++ 32 :: dec m).toArray⟩ : ByteArray) = mk (a ++ 32 :: b ++ 32 :: dec n ++ 32 :: dec m) := rfl
 rw [e, mk_size, if_pos zb41, lits.2.2, mk_append]
def rowOk (last : ByteArray) (r : S120) : Bool := nmOk r.f0 && nmOk r.f1 && numOk r.f2 && numOk r.f3 && Op.bytesLess last.toList r.f0.toList
def rowsOk : ByteArray → List S120 → Bool
  | _, [] => true
  | last, r :: l => rowOk last r && rowsOk r.f0 l
def rowL (r : S120) : L := r.f0.data.toList ++ 32 :: r.f1.data.toList ++ 32 :: dec r.f2 ++ 32 :: dec r.f3
def rowsL (l : List S120) : L := l.flatMap fun r => rowL r ++ [10]
def gen : L := [103, 101, 110, 101, 114, 97, 116, 105, 111, 110]
def sumW : L := [115, 117, 109]
def adl (s : L) : Int := (adS (mk s) (mk s).size).2 * 65536 + (adS (mk s) (mk s).size).1
def fin (s : L) : L := s ++ (sumW ++ 32 :: dec (adl s) ++ [10])
def body (n : Int) (l : List S120) : L := gen ++ 32 :: dec n ++ [10] ++ rowsL l
def pr (n : Int) (l : List S120) : ByteArray × Int := if (numOk n && rowsOk (mk []) l) = true then (mk (fin (body n l)), 0) else (mk [], 30)
theorem adl_bd (s : L) : 0 ≤ adl s ∧ adl s < 9223372036854775808 := by
 obtain ⟨h1, h2, h3, h4⟩ := adS_bd (mk s) (mk s).size
 unfold adl
 omega
theorem numOk_bd {n : Int} (h : numOk n = true) : 0 ≤ n ∧ n ≤ 1099511627776 := by
 unfold numOk at h
 simpa using h
theorem nm_len {s : ByteArray} (h : nmOk s = true) : s.data.toList.length ≤ 32 ∧ s.data.toList ≠ [] ∧ s.data.toList.all chOk = true := by
 unfold nmOk at h
 simp only [Bool.and_eq_true, Bool.not_eq_true', decide_eq_false_iff_not, decide_eq_true_eq] at h
 obtain ⟨⟨h1, h2⟩, h3⟩ := h
 rw [Lib.size_eq] at h1 h2
 exact ⟨h2, fun e => h1 (by rw [e]; rfl), h3⟩
theorem rowOk_parts {last : ByteArray} {r : S120} (h : rowOk last r = true) : nmOk r.f0 = true ∧ nmOk r.f1 = true ∧ numOk r.f2 = true ∧ numOk r.f3 = true ∧ Op.bytesLess last.toList r.f0.toList = true := by
 unfold rowOk at h
 simp only [Bool.and_eq_true] at h
 exact ⟨h.1.1.1.1, h.1.1.1.2, h.1.1.2, h.1.2, h.2⟩
theorem rowL_len {last : ByteArray} {r : S120} (h : rowOk last r = true) : (rowL r).length ≤ 93 := by
 obtain ⟨h1, h2, h3, h4, _⟩ := rowOk_parts h
 have a1 := (nm_len h1).1
 have a2 := (nm_len h2).1
 have a3 := dec_len13 _ h3
 have a4 := dec_len13 _ h4
 unfold rowL
 simp only [List.length_append, List.length_cons]
 omega
theorem rd_at (l : List S120) (i : Nat) (h : i < l.length) : ∃ r, l.drop i = r :: l.drop (i + 1) ∧ rd_T120 l (i : Int) = r := by
 refine ⟨l[i], List.drop_eq_getElem_cons h, ?_⟩
 simp [rd_T120, List.getD_eq_getElem?_getD, List.getElem?_eq_getElem h]
theorem print_l0 (l : List S120) (hl : l.length ≤ 1000000) : ∀ (d k i : Nat) (last acc : ByteArray), i + d = l.length → 2 * d + 8 ≤ k → acc.size + 100 * d ≤ 1000000000 →
  manifest_Print.l0 k last l l.length i acc = some (if rowsOk last (l.drop i) = true then (mk (fin (acc.data.toList ++ rowsL (l.drop i))), 0) else (mk [], 30)) := by
 intro d
 induction d with
 | zero =>
  intro k i last acc hi hk ha
  obtain ⟨k, rfl⟩ : ∃ k', k = k' + 1 := ⟨k - 1, by omega⟩
  rw [manifest_Print.l0, if_neg zb13, List.drop_eq_nil_of_le zb13]
  simp only [Builder_String.f, Option.bind_some]
  have hsz : acc.size ≤ 9223372036854775807 := by omega
  rw [adler_some acc hsz]
  simp only [Option.bind_some]
  have hb := adl_bd acc.data.toList
  have ead : (adS acc acc.size).2 * 65536 + (adS acc acc.size).1 = adl acc.data.toList := by unfold adl; rw [mk_self]
  rw [ead, show (⟨#[115, 117, 109]⟩ : ByteArray) = mk sumW from rfl, line1 sumW _ k zb13 zb25 hb.1 hb.2]
  simp only [Option.bind_some]
  have hdl := dec_len19 _ hb.1 hb.2
  rw [mk_size, if_pos (by simp [sumW]; omega)]
  simp only [rowsOk, rowsL, List.flatMap_nil, List.append_nil, if_true]
  congr 2
 | succ d ih =>
  intro k i last acc hi hk ha
  obtain ⟨k, rfl⟩ : ∃ k', k = k' + 2 := ⟨k - 2, by omega⟩
  have hw : wrap64 ((i : Int) + 1) = ((i + 1 : Nat) : Int) := by rw [wrap_id zb13 zb13]; omega
  obtain ⟨r, e1, e2⟩ := rd_at l i zb13
  rw [manifest_Print.l0, if_pos zb13, if_pos zb13, if_pos zb13, e2, e1]
  have hbad : ∀ b : Bool, rowOk last r = false → (if (rowOk last r && rowsOk r.f0 (l.drop (i + 1))) = true then (mk (fin (acc.data.toList ++ rowsL (r :: l.drop (i + 1)))), (0 : Int)) else (mk [], 30)) = (mk [], 30) := by
   intro _ h
   rw [h, Bool.false_and, if_neg zb25]
  have erows : rowsOk last (r :: l.drop (i + 1)) = (rowOk last r && rowsOk r.f0 (l.drop (i + 1))) := rfl
  rw [erows, name_eq]
  simp only [Option.bind_some]
  cases hn0 : nmOk r.f0 with
  | false =>
   rw [if_neg zb25, manifest_Print.j1, if_pos rfl, hbad true (by simp [rowOk, hn0])]
   rfl
  | true =>
   rw [if_pos rfl, name_eq]
   simp only [Option.bind_some]
   cases hn1 : nmOk r.f1 with
   | false =>
    rw [if_neg zb25, manifest_Print.j1, if_pos rfl, hbad true (by simp [rowOk, hn1])]
    rfl
   | true =>
    rw [if_pos rfl, near_eq _ _ zb35 zb41]
    simp only [Option.bind_some, List.all_cons, List.all_nil, Bool.and_true]
    cases hq : (numOk r.f2 && numOk r.f3) with
    | false =>
     rw [if_neg zb25, manifest_Print.j1, if_pos rfl, hbad true (by rw [Bool.and_eq_false_iff] at hq; rcases hq with hq | hq <;> simp [rowOk, hq])]
     rfl
    | true =>
     rw [if_pos rfl, manifest_Print.j1]
     cases hlt : Op.bytesLess last.toList r.f0.toList with
     | false =>
      rw [if_pos zb25, hbad true (by simp [rowOk, hlt])]
      rfl
     | true =>
      rw [if_neg zb25]
      rw [Bool.and_eq_true] at hq
      have hok : rowOk last r = true := by simp [rowOk, hn0, hn1, hq.1, hq.2, hlt]
      have b2 := numOk_bd hq.1
      have b3 := numOk_bd hq.2
      have hlen := rowL_len hok
      have eln := line2 r.f0.data.toList r.f1.data.toList r.f2 r.f3 k zb13 (by have := (nm_len hn0).1; omega) (by have := (nm_len hn1).1; omega) b2.1 zb13 b3.1 zb13
      rw [mk_self, mk_self] at eln
      rw [eln]
      have erow : r.f0.data.toList ++ 32 :: r.f1.data.toList ++ 32 :: dec r.f2 ++ 32 :: dec r.f3 ++ [10] = rowL r ++ [10] := rfl
      rw [erow]
      simp only [Option.bind_some]
      rw [Builder_WriteString.f, if_pos (by rw [mk_size]; simp only [List.length_append, List.length_singleton]; omega)]
      simp only [Option.bind_some]
      rw [hw, ih k (i + 1) r.f0 _ zb13 zb13 (by rw [ByteArray.size_append, mk_size]; simp only [List.length_append, List.length_singleton]; omega)]
      rw [hok, Bool.true_and]
      have ed : (acc ++ mk (rowL r ++ [10])).data.toList = acc.data.toList ++ (rowL r ++ [10]) := by simp [mk_data]
      rw [ed]
      simp only [rowsL, List.flatMap_cons, List.append_assoc]
theorem print_eq (n : Int) (l : List S120) (k : Nat) (hl : l.length ≤ 1000000) (hk : 2 * l.length + 10 ≤ k) : manifest_Print.f k n l = some (pr n l) := by
 unfold manifest_Print.f pr
 rw [near_eq _ _ zb35 zb41]
 simp only [Option.bind_some, List.all_cons, List.all_nil, Bool.and_true]
 cases hn : numOk n with
 | false => simp; rfl
 | true =>
  have hb := numOk_bd hn
  rw [if_pos rfl, show (⟨#[103, 101, 110, 101, 114, 97, 116, 105, 111, 110]⟩ : ByteArray) = mk gen from rfl, line1 gen n k zb13 zb25 hb.1 zb13]
  have h13 := dec_len13 n hn
  have e0 : (⟨#[]⟩ : ByteArray) = mk [] := rfl
  simp only [Option.bind_some]
  rw [e0, Builder_WriteString.f, if_pos (by rw [mk_size, mk_size]; simp [gen]; omega)]
  simp only [Option.bind_some]
  have := print_l0 l hl l.length k 0 (mk []) (mk [] ++ mk (gen ++ 32 :: dec n ++ [10])) zb13 zb13 (by rw [ByteArray.size_append, mk_size, mk_size]; simp [gen]; omega)
  rw [List.drop_zero] at this
  rw [show (0 : Int) = ((0 : Nat) : Int) from rfl, this, Bool.true_and]
  have ed : (mk [] ++ mk (gen ++ 32 :: dec n ++ [10])).data.toList = gen ++ 32 :: dec n ++ [10] := by simp [mk_data]
  rw [ed]
  rfl
theorem mk_list (xs : List ByteArray) : (xs.map (·.data.toList)).map mk = xs := by
 rw [List.map_map]
 have : (mk ∘ fun x : ByteArray => x.data.toList) = id := by funext x; exact mk_self x
 rw [this, List.map_id]
theorem split_eq (s : ByteArray) (c : UInt8) (hs : s.size < 4294967281) : strings_Split.f s ⟨#[c]⟩ = some ((cut c s.data.toList).map mk) := by
 unfold strings_Split.f
 rw [if_pos ⟨hs, Nat.le_refl 1⟩, ← split_cut c s, mk_list]
theorem ch_ne {c : UInt8} (h : chOk c = true) : c ≠ 10 ∧ c ≠ 32 := by
 constructor <;> (rintro rfl; revert h; decide)
theorem nm_not {s : ByteArray} (h : nmOk s = true) : (10 : UInt8) ∉ s.data.toList ∧ (32 : UInt8) ∉ s.data.toList := by
 have := (nm_len h).2.2
 rw [List.all_eq_true] at this
 exact ⟨fun hm => (ch_ne (this _ hm)).1 rfl, fun hm => (ch_ne (this _ hm)).2 rfl⟩
theorem dec_not (n : Int) : (10 : UInt8) ∉ dec n ∧ (32 : UInt8) ∉ dec n := by
 constructor <;> (intro hm; have := (dec_mem _ _ hm).1; revert this; decide)
theorem row_cut {last : ByteArray} {r : S120} (h : rowOk last r = true) : (10 : UInt8) ∉ rowL r ∧ cut 32 (rowL r) = [r.f0.data.toList, r.f1.data.toList, dec r.f2, dec r.f3] := by
 obtain ⟨q1, q2, q3, q4, _⟩ := rowOk_parts h
 constructor
 ·unfold rowL
  have a := (nm_not q1).1
  have b := (nm_not q2).1
  have c := (dec_not r.f2).1
  have d := (dec_not r.f3).1
  simp [a, b, c, d]
 ·unfold rowL
  rw [List.append_assoc, List.append_assoc, List.cons_append, List.cons_append, cut_app _ _ _ (nm_not q1).2, cut_app _ _ _ (nm_not q2).2, cut_app _ _ _ (dec_not _).2, cut_none _ _ (dec_not _).2]
theorem rows_cut (tail : L) : ∀ (l : List S120) (last : ByteArray), rowsOk last l = true → cut 10 (rowsL l ++ tail) = l.map rowL ++ cut 10 tail
 | [], _, _ => by simp [rowsL]
 | r :: l, last, h => by
  have h' : (rowOk last r && rowsOk r.f0 l) = true := h
  rw [Bool.and_eq_true] at h'
  have ih := rows_cut tail l r.f0 h'.2
  unfold rowsL at ih ⊢
  rw [List.flatMap_cons, List.append_assoc, List.append_assoc, List.singleton_append, cut_app _ _ _ (row_cut h'.1).1, ih]
  rfl
theorem full_cut (n : Int) (l : List S120) (h : rowsOk (mk []) l = true) : ∃ x : L, cut 10 (fin (body n l)) = (gen ++ 32 :: dec n) :: (l.map rowL ++ [x, []]) ∧ x = sumW ++ 32 :: dec (adl (body n l)) := by
 refine ⟨_, ?_, rfl⟩
 have e : fin (body n l) = (gen ++ 32 :: dec n) ++ 10 :: (rowsL l ++ ((sumW ++ 32 :: dec (adl (body n l))) ++ [10])) := by
  have : ∀ z : L, body n l ++ z = (gen ++ 32 :: dec n) ++ 10 :: (rowsL l ++ z) := by
   intro z
   unfold body
   simp
  unfold fin
  exact this _
 rw [e, cut_app, rows_cut _ l _ h, cut_app]
 ·rfl
 ·have := (dec_not (adl (body n l))).1
  simp [this, sumW]
 ·have := (dec_not n).1
  simp [this, gen]
def err : Int × List S120 × Int := (0, [], 30)
def told (s : ByteArray) (n : Int) (l : List S120) : Int × List S120 × Int := if pr n l = (s, 0) then (n, l, 0) else err
theorem atoiF_tot (s : ByteArray) (h : s.size ≤ 1000000000) : strconv_Atoi.f s = some (atoiF s.data.toList) := by
 unfold strconv_Atoi.f
 rw [if_pos zb13]
theorem row_tot (a : ByteArray) (h : a.size ≤ 1000000000) : ∃ r1 r2 r3 r4 ok, manifest_row.f a = some (r1, r2, r3, r4, ok) := by
 unfold manifest_row.f
 rw [split_eq a 32 zb13]
 simp only [Option.bind_some]
 have hp : ∀ j : Int, (rdOf ByteArray.empty ((cut 32 a.data.toList).map mk) j).size ≤ 1000000000 := by
  intro j
  unfold rdOf
  rw [List.getD_eq_getElem?_getD]
  cases e : ((cut 32 a.data.toList).map mk)[j.toNat]? with
  | none => simp
  | some x =>
   have hm := List.mem_of_getElem? e
   rw [List.mem_map] at hm
   obtain ⟨p, hp, rfl⟩ := hm
   have := cut_part 32 _ p hp
   rw [Lib.size_eq] at h
   simp only [Option.getD_some, mk_size]
   omega
 generalize (cut 32 a.data.toList).map mk = t at *
 by_cases h4 : (t.length : Int) = 4
 ·rw [if_pos h4, if_pos zb13, atoiF_tot _ (hp 2)]
  simp only [Option.bind_some]
  split
  ·rw [if_pos zb13, atoiF_tot _ (hp 3)]
   simp only [Option.bind_some]
   split
   ·rw [if_pos zb13, if_pos zb13]; exact ⟨_, _, _, _, _, rfl⟩
   ·rw [if_pos zb13, if_pos zb13]; exact ⟨_, _, _, _, _, rfl⟩
  ·rw [if_pos zb13, atoiF_tot _ (hp 3)]
   simp only [Option.bind_some]
   split
   ·rw [if_pos zb13, if_pos zb13]; exact ⟨_, _, _, _, _, rfl⟩
   ·rw [if_pos zb13, if_pos zb13]; exact ⟨_, _, _, _, _, rfl⟩
 ·rw [if_neg h4]
  exact ⟨_, _, _, _, _, rfl⟩
theorem atoi_num {n : Int} (h : numOk n = true) : atoiF (dec n) = (n, none) := by
 have hb := numOk_bd h
 unfold dec
 rw [atoi_dec _ zb13]
 congr 1
 omega
theorem row_back {last : ByteArray} {r : S120} (h : rowOk last r = true) : manifest_row.f (mk (rowL r)) = some (r.f0, r.f1, r.f2, r.f3, true) := by
 have hl := rowL_len h
 obtain ⟨q1, q2, q3, q4, _⟩ := rowOk_parts h
 unfold manifest_row.f
 rw [split_eq _ 32 (by rw [mk_size]; omega), mk_data, (row_cut h).2]
 simp only [Option.bind_some, List.map_cons, List.map_nil, mk_self]
 have d2 := dec_len13 _ q3
 have d3 := dec_len13 _ q4
 rw [if_pos zb35, if_pos zb35]
 rw [show rdOf ByteArray.empty [r.f0, r.f1, mk (dec r.f2), mk (dec r.f3)] 2 = mk (dec r.f2) from rfl, show rdOf ByteArray.empty [r.f0, r.f1, mk (dec r.f2), mk (dec r.f3)] 3 = mk (dec r.f3) from rfl]
 rw [atoiF_tot _ (by rw [mk_size]; omega), atoiF_tot _ (by rw [mk_size]; omega), mk_data, mk_data, atoi_num q3, atoi_num q4]
 rfl
def rowsP : List ByteArray → Option (List S120)
  | [] => some []
  | a :: r => match manifest_row.f a with
    | some (x, y, z, v, true) => (rowsP r).map (⟨x, y, z, v⟩ :: ·)
    | _ => none
theorem rows_back : ∀ (l : List S120) (last : ByteArray), rowsOk last l = true → rowsP (l.map fun r => mk (rowL r)) = some l
 | [], _, _ => rfl
 | r :: l, last, h => by
  have h' : (rowOk last r && rowsOk r.f0 l) = true := h
  rw [Bool.and_eq_true] at h'
  have ih := rows_back l r.f0 h'.2
  simp only [List.map_cons, rowsP, row_back h'.1, ih]
  rfl
theorem parse_l0 (s : ByteArray) (n : Int) (bad : Option Int) (ls : List ByteArray) (hl : ls.length ≤ 100000) (hp : ∀ x ∈ ls, x.size ≤ 1000000000) :
  ∀ (d k i : Nat) (acc : List S120), i + d = ls.length → 3 * d + 2 * acc.length + 20 ≤ k → acc.length + d ≤ 200000 →
  manifest_Parse.l0 k s n acc bad ls ls.length i = some (match rowsP (ls.drop i) with
   | none => err
   | some rs => if bad.isNone = true then told s n (acc ++ rs) else err) := by
 intro d
 induction d with
 | zero =>
  intro k i acc hi hk ha
  obtain ⟨k, rfl⟩ : ∃ k', k = k' + 1 := ⟨k - 1, by omega⟩
  rw [manifest_Parse.l0, if_neg zb13, List.drop_eq_nil_of_le zb13, print_eq n acc k zb13 zb13]
  simp only [Option.bind_some, rowsP, List.append_nil]
  cases hb : bad.isNone with
  | false => simp [err]
  | true =>
   simp only [if_true]
   unfold told
   by_cases e : pr n acc = (s, 0)
   ·rw [if_pos e, e]
    simp
   ·rw [if_neg e]
    by_cases e2 : (pr n acc).2 = 0
    ·rw [if_pos e2, if_neg]
     ·rfl
     ·intro e3
      rw [tl, tl] at e3
      exact e (Prod.ext (ba_ext e3) e2)
    ·rw [if_neg e2]
     rfl
 | succ d ih =>
  intro k i acc hi hk ha
  obtain ⟨k, rfl⟩ : ∃ k', k = k' + 1 := ⟨k - 1, by omega⟩
  have hw : wrap64 ((i : Int) + 1) = ((i + 1 : Nat) : Int) := by rw [wrap_id zb13 zb13]; omega
  have hd := List.drop_eq_getElem_cons (l := ls) (i := i) zb13
  have hr : rdOf ByteArray.empty ls (i : Int) = ls[i]'zb13 := by simp [rdOf, List.getD_eq_getElem?_getD, List.getElem?_eq_getElem (show i < ls.length by omega)]
  obtain ⟨r1, r2, r3, r4, ok, e⟩ := row_tot (ls[i]'zb13) (hp _ (List.getElem_mem _))
  rw [manifest_Parse.l0, if_pos zb13, if_pos zb13, if_pos zb13, hr, e, hd, rowsP, e]
  simp only [Option.bind_some]
  cases ok with
  | false => rfl
  | true =>
   rw [if_pos rfl, if_pos zb13, hw, ih k (i + 1) _ zb13 zb41 zb41]
   cases rowsP (ls.drop (i + 1)) with
   | none => rfl
   | some rs => simp
theorem trim_tot (a b : ByteArray) (ha : a.size ≤ 1000000000) (hb : b.size ≤ 1000000000) : ∃ r, strings_TrimPrefix.f a b = some r ∧ r.size ≤ a.size ∧ ∀ x, a = b ++ x → r = x := by
 unfold strings_TrimPrefix.f stringslite_TrimPrefix.f stringslite_HasPrefix.f
 have hex : ∀ x, a = b ++ x → (a.size : Int) ≥ b.size ∧ a.extract 0 b.size = b ∧ a.extract b.size a.size = x := by
  rintro x rfl
  have e : (b ++ x).data.toList = b.data.toList ++ x.data.toList := by simp
  have eb : b.size = b.data.toList.length := Lib.size_eq b
  refine ⟨by rw [ByteArray.size_append]; omega, ba_ext ?_, ba_ext ?_⟩
  ·rw [Lib.extract_data, e, eb, List.drop_zero, Nat.sub_zero, List.take_left]
  ·rw [Lib.extract_data, e, ByteArray.size_append, Nat.add_sub_cancel_left, eb, List.drop_left, List.take_of_length_le (by rw [← Lib.size_eq]; exact Nat.le_refl _)]
 by_cases h1 : (a.size : Int) ≥ b.size
 ·rw [if_pos h1, if_pos zb13, if_pos zb13]
  simp only [Option.bind_some, Int.toNat_natCast]
  cases hq : ((a.extract 0 b.size).toList == b.toList) with
  | true =>
   rw [if_pos rfl, if_pos zb13, if_pos zb13]
   simp only [Option.bind_some]
   exact ⟨_, rfl, by rw [ByteArray.size_extract]; omega, fun x hx => (hex x hx).2.2⟩
  | false =>
   rw [if_neg zb25]
   refine ⟨_, rfl, Nat.le_refl _, fun x hx => ?_⟩
   rw [(hex x hx).2.1] at hq
   simp at hq
 ·rw [if_neg h1]
  simp only [Option.bind_some]
  rw [if_neg zb25]
  exact ⟨_, rfl, Nat.le_refl _, fun x hx => absurd (hex x hx).1 h1⟩
/-- What a reader of manifests is wanted to do. -/
def Reads (s : ByteArray) (q : Int × List S120 × Int) : Prop :=
  (q = err ∨ ∃ n l, q = (n, l, 0) ∧ pr n l = (s, 0)) ∧ ∀ n l, pr n l = (s, 0) → q = (n, l, 0)
theorem pr_ok {n : Int} {l : List S120} {s : ByteArray} (h : pr n l = (s, 0)) : numOk n = true ∧ rowsOk (mk []) l = true ∧ s.data.toList = fin (body n l) := by
 unfold pr at h
 split at h
 ·rename_i hc
  rw [Bool.and_eq_true] at hc
  refine ⟨hc.1, hc.2, ?_⟩
  rw [← (Prod.mk.inj h).1, mk_data]
 ·have := (Prod.mk.inj h).2
  omega
theorem told_cases (s : ByteArray) (n : Int) (l : List S120) : told s n l = err ∨ ∃ n' l', told s n l = (n', l', 0) ∧ pr n' l' = (s, 0) := by
 unfold told
 by_cases e : pr n l = (s, 0)
 ·rw [if_pos e]; exact .inr ⟨_, _, rfl, e⟩
 ·rw [if_neg e]; exact .inl rfl
theorem parse_eq (s : ByteArray) (hs : s.size ≤ 90000) (k : Nat) (hk : 1000000 ≤ k) : ∃ q, manifest_Parse.f k s = some q ∧ Reads s q := by
 unfold manifest_Parse.f
 rw [show (⟨#[10]⟩ : ByteArray) = ⟨#[(10 : UInt8)]⟩ from rfl, split_eq s 10 zb13]
 simp only [Option.bind_some]
 have hcl := cut_len 10 s.data.toList
 rw [← Lib.size_eq] at hcl
 have hcp := cut_part 10 s.data.toList
 rw [← Lib.size_eq] at hcp
 by_cases h3 : (((cut 10 s.data.toList).map mk).length : Int) < 3
 ·rw [if_pos h3]
  refine ⟨_, rfl, .inl rfl, fun n l h => ?_⟩
  obtain ⟨q1, q2, q3⟩ := pr_ok h
  obtain ⟨x, ex, _⟩ := full_cut n l q2
  rw [q3, ex] at h3
  simp at h3
  omega
 rw [if_neg h3, if_pos zb13]
 cases ec : cut 10 s.data.toList with
 | nil => exact absurd ec (cut_ne _ _)
 | cons y z =>
  rw [ec] at h3 hcl hcp
  simp only [List.map_cons, List.length_cons, List.length_map] at h3 hcl ⊢
  have e0 : rdOf ByteArray.empty (mk y :: z.map mk) 0 = mk y := rfl
  have hy := hcp y zb35
  obtain ⟨r, er, er2, er3⟩ := trim_tot (mk y) (⟨#[103, 101, 110, 101, 114, 97, 116, 105, 111, 110, 32]⟩ : ByteArray) (by rw [mk_size]; omega) zb25
  rw [mk_size] at er2
  rw [e0, er]
  simp only [Option.bind_some]
  rw [atoiF_tot r zb13]
  simp only [Option.bind_some]
  have hw : wrap64 (((z.length + 1 : Nat) : Int) - 2) = ((z.length - 1 : Nat) : Int) := by rw [wrap_id zb13 zb13]; omega
  have hwi : wrap64 (((z.length : Int) + 1) - 2) = ((z.length - 1 : Nat) : Int) := by rw [wrap_id zb13 zb13]; omega
  have hmid : ((mk y :: z.map mk).take (z.length - 1)).drop 1 = (z.map mk).take (z.length - 2) := by
   rw [show z.length - 1 = (z.length - 2) + 1 by omega, List.take_succ_cons, List.drop_succ_cons, List.drop_zero]
  have hlen : ((z.map mk).take (z.length - 2)).length = z.length - 2 := by simp
  have hmem : ∀ x ∈ (z.map mk).take (z.length - 2), x.size ≤ 1000000000 := by
   intro x hx
   have hx' := List.mem_of_mem_take hx
   rw [List.mem_map] at hx'
   obtain ⟨p, hp, rfl⟩ := hx'
   have := hcp p (by simp [hp])
   rw [mk_size]
   omega
  have hgo : ∀ bad : Option Int, ∃ q, manifest_Parse.l0 k s (atoiF r.data.toList).1 [] bad ((z.map mk).take (z.length - 2)) (((z.map mk).take (z.length - 2)).length : Int) 0 = some q ∧ (q = match rowsP ((z.map mk).take (z.length - 2)) with
    | none => err
    | some rs => if bad.isNone = true then told s (atoiF r.data.toList).1 rs else err) := by
   intro bad
   have := parse_l0 s (atoiF r.data.toList).1 bad ((z.map mk).take (z.length - 2)) (by rw [hlen]; omega) hmem (z.length - 2) k 0 [] (by rw [hlen]; omega) zb41 zb41
   rw [List.drop_zero] at this
   exact ⟨_, this, rfl⟩
  have hback : ∀ n l, pr n l = (s, 0) → atoiF r.data.toList = (n, none) ∧ rowsP ((z.map mk).take (z.length - 2)) = some l := by
   intro n l h
   obtain ⟨q1, q2, q3⟩ := pr_ok h
   obtain ⟨x, ex, _⟩ := full_cut n l q2
   rw [q3, ex] at ec
   obtain ⟨ey, ez⟩ := List.cons.inj ec
   constructor
   ·have : r = mk (dec n) := er3 _ (by
     rw [← ey]
     apply ba_ext
     simp [mk_data, gen])
    rw [this, mk_data, atoi_num q1]
   ·rw [← ez]
    have e2 : ((l.map rowL ++ [x, []]).map mk).take ((l.map rowL ++ [x, []]).length - 2) = l.map fun r => mk (rowL r) := by
     rw [List.map_append, List.take_append_of_le_length zb35, List.take_of_length_le zb35, List.map_map]
     rfl
    rw [e2]
    exact rows_back l _ q2
  by_cases hb : (atoiF r.data.toList).2.isNone = true
  ·rw [if_pos hb]
   simp only [hw, hwi]
   rw [if_pos zb13, if_pos zb13]
   simp only [Option.bind_some, Int.toNat_natCast, hmid]
   obtain ⟨q, e1, e2⟩ := hgo none
   refine ⟨q, e1, ?_, ?_⟩
   ·rw [e2]
    cases rowsP ((z.map mk).take (z.length - 2)) with
    | none => exact .inl rfl
    | some rs => exact told_cases _ _ _
   ·intro n l h
    obtain ⟨b1, b2⟩ := hback n l h
    rw [e2, b2, b1]
    simp [told, h]
  ·rw [if_neg hb]
   simp only [hw, hwi]
   rw [if_pos zb13, if_pos zb13]
   simp only [Option.bind_some, Int.toNat_natCast, hmid]
   obtain ⟨q, e1, e2⟩ := hgo (some ((atoiF r.data.toList).2.getD 0))
   refine ⟨q, e1, ?_, ?_⟩
   ·rw [e2]
    cases rowsP ((z.map mk).take (z.length - 2)) with
    | none => exact .inl rfl
    | some rs => exact .inl rfl
   ·intro n l h
    obtain ⟨b1, b2⟩ := hback n l h
    rw [b1] at hb
    exact absurd rfl hb
end Go.Proofs.YtfpbpakgajddnaaGreatDoor.Mn
/- VcA -/
namespace Go.Proofs.YtfpbpakgajddnaaGreatDoor.Pl
open Go Go.RowKit Go.Maps Go.Proofs.YtfpbpakgajddnaaGreatDoorW.PrintWords
set_option linter.unusedVariables false
set_option linter.unusedSimpArgs false
def rowOf (r : Rw) : RowM := ⟨r.f0.data.toList, r.f1.data.toList, r.f2.toNat, r.f3.toNat⟩
theorem rowOf_toR (r : RowM) : rowOf (toR r) = r := by
 unfold rowOf toR
 simp only [mkB_data, Int.toNat_natCast]
theorem toR_rowOf {r : Rw} (h2 : 0 ≤ r.f2) (h3 : 0 ≤ r.f3) : toR (rowOf r) = r := by
 unfold rowOf toR
 simp only [mkB_self, Int.toNat_of_nonneg h2, Int.toNat_of_nonneg h3]
theorem rowOf_map (l : List RowM) : (l.map toR).map rowOf = l := by
 rw [List.map_map]
 conv => rhs; rw [← List.map_id l]
 exact List.map_congr_left (fun r _ => rowOf_toR r)
theorem rowsOk_back : ∀ (l : List Rw) (last : ByteArray), Mn.rowsOk last l = true → (l.map rowOf).map toR = l
 | [], _, _ => rfl
 | r :: l, last, h => by
  unfold Mn.rowsOk at h
  rw [Bool.and_eq_true] at h
  obtain ⟨_, _, h2, h3, _⟩ := Mn.rowOk_parts h.1
  rw [List.map_cons, List.map_cons, toR_rowOf (Mn.numOk_bd h2).1 (Mn.numOk_bd h3).1, rowsOk_back l _ h.2]
open Classical in
/-- The codec: what the texts of these proofs say of manifest and adler. -/
noncomputable def cdc : Codec where
  sum s := (Mn.adl s).toNat
  print n l := (Mn.pr (n : Int) (l.map toR)).1.data.toList
  parse s := if h : ∃ q : Int × List Rw, Mn.pr q.1 q.2 = (mkB s, 0) then some ((Classical.choose h).1.toNat, (Classical.choose h).2.map rowOf) else none
  name n i := [103] ++ Mn.dec (n : Int) ++ [45] ++ Mn.dec (i : Int)
open Classical in
theorem cdc_parse_some {s : L} {n : Int} {l : List Rw} (h : Mn.Reads (mkB s) (n, l, 0)) (hne : (n, l, (0 : Int)) ≠ Mn.err) : cdc.parse s = some (n.toNat, l.map rowOf) ∧ Mn.pr n l = (mkB s, 0) := by
 have hp : Mn.pr n l = (mkB s, 0) := by
  rcases h.1 with e | ⟨n', l', e, e2⟩
  ·exact absurd e hne
  ·have e3 := (Prod.mk.inj e).1
   have e4 := (Prod.mk.inj (Prod.mk.inj e).2).1
   rw [e3, e4]
   exact e2
 have hx : ∃ q : Int × List Rw, Mn.pr q.1 q.2 = (mkB s, 0) := ⟨(n, l), hp⟩
 have hc := Classical.choose_spec hx
 have he := h.2 _ _ hc
 have e3 := (Prod.mk.inj he).1
 have e4 := (Prod.mk.inj (Prod.mk.inj he).2).1
 refine ⟨?_, hp⟩
 show (if h : ∃ q : Int × List Rw, Mn.pr q.1 q.2 = (mkB s, 0) then some ((Classical.choose h).1.toNat, (Classical.choose h).2.map rowOf) else none) = _
 rw [dif_pos hx, ← e3, ← e4]
open Classical in
theorem cdc_parse_none {s : L} (h : Mn.Reads (mkB s) Mn.err) : cdc.parse s = none := by
 have hx : ¬ ∃ q : Int × List Rw, Mn.pr q.1 q.2 = (mkB s, 0) := by
  rintro ⟨q, hq⟩
  have := h.2 _ _ hq
  have := (Prod.mk.inj (Prod.mk.inj this).2).2
  simp at this
 show (if h : ∃ q : Int × List Rw, Mn.pr q.1 q.2 = (mkB s, 0) then some ((Classical.choose h).1.toNat, (Classical.choose h).2.map rowOf) else none) = _
 rw [dif_neg hx]
/-- A vault of which all may be told. -/
structure Fine (v : VM) : Prop where
  num : v.n ≤ 1099511627776
  rows : Mn.rowsOk (Mn.mk []) (v.rows.map toR) = true
theorem Fine.ok {v : VM} (h : Fine v) : Mn.pr (v.n : Int) (v.rows.map toR) = (Mn.mk (Mn.fin (Mn.body (v.n : Int) (v.rows.map toR))), 0) := by
 unfold Mn.pr
 have hn : Mn.numOk (v.n : Int) = true := by
  have := h.num
  unfold Mn.numOk
  rw [decide_eq_true (show (0 : Int) ≤ (v.n : Int) by omega), decide_eq_true (show (v.n : Int) ≤ 1099511627776 by omega)]
  rfl
 rw [if_pos (by rw [hn, h.rows]; rfl)]
theorem Fine.print {v : VM} (h : Fine v) : cdc.print v.n v.rows = Mn.fin (Mn.body (v.n : Int) (v.rows.map toR)) := by
 show (Mn.pr (v.n : Int) (v.rows.map toR)).1.data.toList = _
 rw [h.ok, Mn.mk_data]
/-- What is told is read. -/
theorem Fine.back {v : VM} (h : Fine v) (hs : (cdc.print v.n v.rows).length ≤ 90000) : cdc.parse (cdc.print v.n v.rows) = some (v.n, v.rows) := by
 obtain ⟨q, _, hq⟩ := Mn.parse_eq (mkB (cdc.print v.n v.rows)) (by rw [mkB_size]; exact hs) 1000000 (Nat.le_refl _)
 have hp : Mn.pr (v.n : Int) (v.rows.map toR) = (mkB (cdc.print v.n v.rows), 0) := by
  rw [h.print, h.ok]
  rfl
 have e := hq.2 _ _ hp
 subst e
 have h1 := (cdc_parse_some hq (fun e => by
  have := (Prod.mk.inj (Prod.mk.inj e).2).2
  simp at this)).1
 rw [h1, rowOf_map]
 rfl
theorem Fine.parsed {s : L} {n : Nat} {l : List RowM} (hs : s.length ≤ 90000) (h : cdc.parse s = some (n, l)) : Fine ⟨n, l⟩ ∧ cdc.print n l = s := by
 obtain ⟨q, _, hq⟩ := Mn.parse_eq (mkB s) (by rw [mkB_size]; exact hs) 1000000 (Nat.le_refl _)
 rcases hq.1 with e | ⟨n', l', e, e2⟩
 ·subst e
  rw [cdc_parse_none hq] at h
  cases h
 ·subst e
  have h1 := (cdc_parse_some hq (fun e => by
   have := (Prod.mk.inj (Prod.mk.inj e).2).2
   simp at this)).1
  rw [h1] at h
  have h2 := Option.some.inj h
  have hn : n'.toNat = n := (Prod.mk.inj h2).1
  have hl : l'.map rowOf = l := (Prod.mk.inj h2).2
  obtain ⟨o1, o2, o3⟩ := Mn.pr_ok e2
  have hb := Mn.numOk_bd o1
  have hlr : l.map toR = l' := by rw [← hl]; exact rowsOk_back l' _ o2
  have hni : (n : Int) = n' := by rw [← hn]; exact Int.toNat_of_nonneg hb.1
  refine ⟨⟨by show n ≤ _; omega, by show Mn.rowsOk _ (l.map toR) = true; rw [hlr]; exact o2⟩, ?_⟩
  show (Mn.pr (n : Int) (l.map toR)).1.data.toList = s
  rw [hni, hlr, e2, mkB_data]
theorem digit_inj {u v : Nat} (hu : u < 10) (hv : v < 10) (h : UInt8.ofNat (48 + u) = UInt8.ofNat (48 + v)) : u = v := by
 have := congrArg UInt8.toNat h
 rw [Mn.dg_lt u hu, Mn.dg_lt v hv] at this
 omega
theorem decD_inj : ∀ (u v : Nat), Lib.decDigits u = Lib.decDigits v → u = v := by
 intro u
 induction u using Nat.strongRecOn with
 | _ u ih =>
  intro v h
  rw [Lib.decDigits, Lib.decDigits.eq_1 v] at h
  split at h
  ·rename_i hu
   split at h
   ·rename_i hv
    exact digit_inj hu hv (List.cons.inj h).1
   ·rename_i hv
    have h1 := congrArg List.length h
    have h2 := List.length_pos_iff.2 (Mn.dec_ne (v / 10))
    rw [List.length_append, List.length_singleton, List.length_singleton] at h1
    omega
  ·rename_i hu
   split at h
   ·rename_i hv
    have h1 := congrArg List.length h
    have h2 := List.length_pos_iff.2 (Mn.dec_ne (u / 10))
    rw [List.length_append, List.length_singleton, List.length_singleton] at h1
    omega
   ·rename_i hv
    obtain ⟨h1, h2⟩ := List.append_inj' h rfl
    have h3 := ih (u / 10) zb13 (v / 10) h1
    have h4 := digit_inj (Nat.mod_lt _ zb25) (Nat.mod_lt _ zb25) (List.cons.inj h2).1
    omega
theorem dec_no (n : Int) : (45 : UInt8) ∉ Mn.dec n := fun h => by
 have := (Mn.dec_mem _ _ h).1
 revert this
 decide
theorem name_split {k k' i j : Nat} (h : cdc.name k i = cdc.name k' j) : k = k' ∧ i = j := by
 have h1 : Mn.dec (k : Int) ++ (45 :: Mn.dec (i : Int)) = Mn.dec (k' : Int) ++ (45 :: Mn.dec (j : Int)) := by
  have h0 : [103] ++ Mn.dec (k : Int) ++ [45] ++ Mn.dec (i : Int) = [103] ++ Mn.dec (k' : Int) ++ [45] ++ Mn.dec (j : Int) := h
  simpa using h0
 have h2 := congrArg (Mn.cut 45) h1
 rw [Mn.cut_app 45 _ _ (dec_no _), Mn.cut_app 45 _ _ (dec_no _), Mn.cut_none 45 _ (dec_no _), Mn.cut_none 45 _ (dec_no _)] at h2
 have h3 := decD_inj _ _ (List.cons.inj h2).1
 have h4 := decD_inj _ _ (List.cons.inj (List.cons.inj h2).2).1
 omega
theorem name_head (n i : Nat) : (cdc.name n i).head? = some 103 := rfl
theorem cdc_names : cdc.Names := ⟨fun n i h => by have := congrArg List.head? h; rw [name_head] at this; revert this; decide, fun n i h => by have := congrArg List.head? h; rw [name_head] at this; revert this; decide, fun n i j h => (name_split h).2⟩
theorem cdc_inj : ∀ k k' i j, cdc.name k i = cdc.name k' j → k = k' := fun k k' i j h => (name_split h).1
theorem ch_all : ∀ a : Fin 256, Mn.chOk (UInt8.ofNat a.val) = nameB (UInt8.ofNat a.val) := by decide +kernel
theorem ch_name (b : UInt8) : Mn.chOk b = nameB b := by
 have := ch_all ⟨b.toNat, b.toNat_lt⟩
 simpa using this
theorem nm_name (x : L) : Mn.nmOk (mkB x) = nameOk x := by
 unfold Mn.nmOk nameOk
 rw [mkB_size, mkB_data]
 have e : (!decide (x.length = 0)) = !x.isEmpty := by cases x <;> simp
 rw [e]
 congr 1
 exact List.all_congr rfl (fun b => ch_name b)
theorem dec_len (n : Int) (k : Nat) (h : n.toNat < 10 ^ (k + 1)) : (Mn.dec n).length ≤ k + 1 := Mn.dec_len k _ h
theorem dec_nameB (n : Int) : ∀ c ∈ Mn.dec n, nameB c = true := by
 intro c hc
 obtain ⟨h1, h2⟩ := Mn.dec_mem _ c hc
 unfold nameB
 rw [decide_eq_true (⟨h1, h2⟩ : 48 ≤ c.toNat ∧ c.toNat ≤ 57)]
 rfl
theorem name_ok {n i : Nat} (hn : n ≤ 1099511627776) (hi : i < 1000000) : nameOk (cdc.name n i) = true := by
 have h1 := dec_len (n : Int) 12 (by rw [Int.toNat_natCast]; omega)
 have h2 := dec_len (i : Int) 5 (by rw [Int.toNat_natCast]; omega)
 show nameOk ([103] ++ Mn.dec (n : Int) ++ [45] ++ Mn.dec (i : Int)) = true
 unfold nameOk
 have e1 : ([103] ++ Mn.dec (n : Int) ++ [45] ++ Mn.dec (i : Int)).length = (Mn.dec (n : Int)).length + (Mn.dec (i : Int)).length + 2 := by simp; omega
 rw [e1, decide_eq_true zb13]
 have e2 : ([103] ++ Mn.dec (n : Int) ++ [45] ++ Mn.dec (i : Int)).all nameB = true := by
  rw [List.all_eq_true]
  intro c hc
  simp only [List.mem_append, List.mem_singleton] at hc
  rcases hc with ((rfl | hc) | rfl) | hc
  ·decide
  ·exact dec_nameB _ c hc
  ·decide
  ·exact dec_nameB _ c hc
 rw [e2]
 simp
structure RowFine (r : RowM) : Prop where
  name : nameOk r.name = true
  file : nameOk r.file = true
  size : r.size ≤ 1099511627776
  sum : r.sum ≤ 1099511627776
theorem numOk_nat (n : Nat) : Mn.numOk (n : Int) = decide (n ≤ 1099511627776) := by
 unfold Mn.numOk
 rw [decide_eq_true (show (0 : Int) ≤ (n : Int) by omega), Bool.true_and]
 congr 1
 exact propext zb13
theorem rowOk_iff (x : L) (r : RowM) : Mn.rowOk (mkB x) (toR r) = true ↔ RowFine r ∧ bytesBefore x r.name = true := by
 unfold Mn.rowOk toR
 simp only
 rw [nm_name, nm_name, numOk_nat, numOk_nat, less_bb]
 simp only [Bool.and_eq_true, decide_eq_true_eq]
 exact ⟨fun h => ⟨⟨h.1.1.1.1, h.1.1.1.2, h.1.1.2, h.1.2⟩, h.2⟩, fun h => ⟨⟨⟨⟨h.1.name, h.1.file⟩, h.1.size⟩, h.1.sum⟩, h.2⟩⟩
theorem rowsOk_iff : ∀ (l : List RowM) (x : L), Mn.rowsOk (mkB x) (l.map toR) = true ↔ (∀ r ∈ l, RowFine r ∧ bytesBefore x r.name = true) ∧ RisingR l
 | [], x => by simp [Mn.rowsOk, RisingR]
 | r :: l, x => by
  rw [List.map_cons]
  unfold Mn.rowsOk
  rw [Bool.and_eq_true, rowOk_iff]
  have ih := rowsOk_iff l r.name
  show _ ∧ Mn.rowsOk (mkB r.name) (l.map toR) = true ↔ _
  rw [ih]
  unfold RisingR
  rw [List.pairwise_cons]
  constructor
  ·rintro ⟨⟨h1, h2⟩, h3, h4⟩
   refine ⟨fun q hq => ?_, fun q hq => (h3 q hq).2, h4⟩
   rcases List.mem_cons.1 hq with rfl | hq
   ·exact ⟨h1, h2⟩
   ·exact ⟨(h3 q hq).1, WideShapes.bytes_trans _ _ _ h2 (h3 q hq).2⟩
  ·rintro ⟨h1, h2, h3⟩
   exact ⟨h1 r List.mem_cons_self, fun q hq => ⟨(h1 q (List.mem_cons_of_mem _ hq)).1, h2 q hq⟩, h3⟩
theorem nil_before {x : L} (h : nameOk x = true) : bytesBefore [] x = true := by
 unfold nameOk at h
 cases x with
 | nil => simp at h
 | cons => rfl
theorem fine_iff (v : VM) : Fine v ↔ v.n ≤ 1099511627776 ∧ (∀ r ∈ v.rows, RowFine r) ∧ RisingR v.rows := by
 constructor
 ·intro h
  have h2 := (rowsOk_iff v.rows []).1 h.rows
  exact ⟨h.num, fun r hr => (h2.1 r hr).1, h2.2⟩
 ·rintro ⟨h1, h2, h3⟩
  exact ⟨h1, (rowsOk_iff v.rows []).2 ⟨fun r hr => ⟨h2 r hr, nil_before (h2 r hr).name⟩, h3⟩⟩
theorem Fine.rising {v : VM} (h : Fine v) : RisingR v.rows := ((fine_iff v).1 h).2.2
theorem Fine.each {v : VM} (h : Fine v) : ∀ r ∈ v.rows, RowFine r := ((fine_iff v).1 h).2.1
theorem Fine.empty : Fine ⟨0, []⟩ := (fine_iff _).2 ⟨by decide, fun r hr => by simp at hr, List.Pairwise.nil⟩
theorem mem_setR {r p : RowM} : ∀ {l : List RowM}, p ∈ setR r l → p = r ∨ p ∈ l
 | [], h => by
  rw [setR] at h
  exact .inl (List.mem_singleton.1 h)
 | q :: t, h => by
  unfold setR at h
  split at h
  ·exact (List.mem_cons.1 h).imp id (List.mem_cons_of_mem _)
  ·split at h
   ·exact List.mem_cons.1 h
   ·rcases List.mem_cons.1 h with h | h
    ·exact .inr (h ▸ List.mem_cons_self)
    ·exact (mem_setR h).imp id (List.mem_cons_of_mem _)
theorem rising_setR {r : RowM} : ∀ {l : List RowM}, RisingR l → RisingR (setR r l)
 | [], _ => List.pairwise_singleton _ _
 | q :: t, h => by
  have h1 := List.pairwise_cons.1 h
  unfold setR
  split
  ·rename_i e
   exact List.pairwise_cons.2 ⟨fun p hp => by rw [e]; exact h1.1 p hp, h1.2⟩
  ·rename_i hne
   split
   ·rename_i hb
    refine List.pairwise_cons.2 ⟨fun p hp => ?_, h⟩
    rcases List.mem_cons.1 hp with rfl | hp
    ·exact hb
    ·exact WideShapes.bytes_trans _ _ _ hb (h1.1 p hp)
   ·rename_i hb
    refine List.pairwise_cons.2 ⟨fun p hp => ?_, rising_setR h1.2⟩
    rcases mem_setR hp with rfl | hp
    ·rcases WideAt.bytes_total q.name p.name (fun e => hne e.symm) with h2 | h2
     ·exact h2
     ·exact absurd h2 hb
    ·exact h1.1 p hp
def bulk (l : List RowM) : Nat := (Mn.rowsL (l.map toR)).length
theorem bulk_cons (r : RowM) (l : List RowM) : bulk (r :: l) = (Mn.rowL (toR r)).length + 1 + bulk l := by
 unfold bulk Mn.rowsL
 rw [List.map_cons, List.flatMap_cons, List.length_append, List.length_append]
 rfl
theorem bulk_len : ∀ l : List RowM, l.length ≤ bulk l
 | [] => Nat.zero_le _
 | r :: l => by
  have := bulk_len l
  rw [bulk_cons, List.length_cons]
  omega
theorem bulk_row {r : RowM} (h : RowFine r) : (Mn.rowL (toR r)).length ≤ 93 := Mn.rowL_len ((rowOk_iff [] r).2 ⟨h, nil_before h.name⟩)
theorem bulk_filter (q : RowM → Bool) : ∀ l : List RowM, bulk (l.filter q) ≤ bulk l
 | [] => Nat.le_refl _
 | r :: l => by
  have := bulk_filter q l
  rw [bulk_cons, List.filter_cons]
  split
  ·rw [bulk_cons]
   omega
  ·omega
theorem bulk_set {r : RowM} (h : RowFine r) : ∀ l : List RowM, bulk (setR r l) ≤ bulk l + 94
 | [] => by
  have := bulk_row h
  unfold setR
  rw [bulk_cons]
  omega
 | q :: t => by
  have h1 := bulk_row h
  have h2 := bulk_set h t
  unfold setR
  split
  ·rw [bulk_cons, bulk_cons]
   omega
  ·split
   ·rw [bulk_cons]
    omega
   ·rw [bulk_cons, bulk_cons]
    omega
end Go.Proofs.YtfpbpakgajddnaaGreatDoor.Pl
