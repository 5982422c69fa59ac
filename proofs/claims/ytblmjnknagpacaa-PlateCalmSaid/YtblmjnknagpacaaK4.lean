/- Texts of this seat, joined: lemmas and walks that its statements' proofs use. -/
import Derived.Test.YtblmjnknagpacaaProg
import Derived.Below
import Derived.Deep.Draws
import Derived.Deep.AppendLies
import Derived.Maps.AppendAt
import Derived.OwnWalk
import Derived.Laws.BytesArg
import Derived.Laws.MakeOwn
import Derived.Laws.OwnMore
import Derived.Deep.OwnRows
import Derived.Tactics
import Derived.Lib.ConvBytes
import Derived.Laws.Slices
import Derived.WalkKit
import Derived.KernelRfl
import Derived.RowKit3
import Derived.Deep.LoopGhost
import Derived.Deep.QuietTactic
import Derived.BigQuiet
import Derived.WideLaws
import Derived.Deep.DeepCutAuto
import Derived.Deep.CutBlock
import Derived.Deep.RegionHeld3
import Derived.Laws.Rows
import Derived.Lib.AppendStr
import Derived.ArgAppend
import Derived.Laws.IdiomCopy
import Derived.OrdersHeld
import Derived.Laws.BitsLemmas
import Derived.RowKit
import Derived.WalkMore
import Derived.Test.YtblmjnknagpacaaK3
import Derived.Test.YtblmjnknagpacaaK1
import Derived.BigRegion
import Derived.ChangeSame
import Derived.Deep.RegionWith
import Derived.Deep.Slices
import Derived.Defers
import Derived.Ground.GgwProg
import Derived.Ground.GgzProg
import Derived.Ground.SlgmProg
import Derived.Ground.SlmcProg
import Derived.LaidEql
import Derived.Laws.Pointers
import Derived.Laws.RangeAny
import Derived.Laws.StructEq
import Derived.Lib.Hide
import Derived.Lib.OthersKept
import Derived.Lib.UnsafeStr
import Derived.MapKept
import Derived.Maps.Own
import Derived.Maps.OwnSet
import Derived.Maps.RangeRun
import Derived.Maps.RangeWalk
import Derived.Maps.Views
import Derived.Recover
import Derived.Shelf.GgClosure.StringsIndexFunc
import Derived.Shelf.GgClosure.StringsIndexFuncTop
import Derived.Shelf.SlIter.Nil
import Derived.Shelf.SlMaps.Clone
import Derived.Shelf.Small.Bits
import Derived.Shelf.SortM.Plain
import Derived.Shelf.SortM.SortNone
import Derived.Shelf.Strconv.Itoa0
import Derived.Sort.KeysCollected
import Derived.WalkSmall
import Derived.WideAt
import Derived.WideShapes
import Derived.Test.YtblmjnknagpacaaK2
/- Px0 -/
namespace Go.Proofs.Ytblmjnknagpacaa.P
open Go.Proofs.Ytblmjnknagpacaa.B
open Go.RowKit Go.Proofs.YtblmjnknagpacaaW.PrintWords Go.Proofs.YtblmjnknagpacaaW.PrintLast Go.Proofs.YtblmjnknagpacaaW.PrintMore
attribute [local go_sem] run_store_float str_leq str_gtr str_geq max2_int min2_int max_two min_two max_three min_three max_four min_four
set_option linter.unusedVariables false
set_option linter.unusedSimpArgs false
def errW : Option Int → Value
  | none => .nilIface
  | some c => .iface 0 (.int .i64 c)
theorem errW_none : errW none = .nilIface := rfl
theorem errW_some (c : Int) : errW (some c) = .iface 0 (.int .i64 c) := rfl
theorem info89 : (Try.prog.info? 89).map (fun i => (i.zero, i.size, i.bytes)) = some (some (.agg #[(.string ⟨#[]⟩), (.int .i64 0)]), 2, 24) := by kernel_rfl
-- the values' own types
structure S89 where
  f0 : ByteArray
  f1 : Int
def z89 : S89 := ⟨(⟨#[]⟩ : ByteArray), (0 : Int)⟩
def k89 : Kd S89 := Kd.iso (Kd.pair Kd.string (Kd.int .i64)) (fun x : S89 => (x.f0, x.f1))
theorem k89_open {w : World} {x : S89} {cs : List Value} (h : k89.K w x cs) : cs = [.string x.f0, .int .i64 x.f1] := by
  obtain ⟨_, _, rfl, rfl, rfl⟩ := h
  exact rfl
theorem k89_openM {w : World} {base : Nat} {ok : Nat → Prop} {x : S89} {cs : List Value} (h : k89.M w base ok x cs) : cs = [.string x.f0, .int .i64 x.f1] := by
  obtain ⟨_, _, rfl, rfl, rfl⟩ := h
  exact rfl
theorem k89_mk (w : World) (x : S89)  : k89.K w x [.string x.f0, .int .i64 x.f1] := ⟨[.string x.f0], [.int .i64 x.f1], rfl, rfl, rfl⟩
theorem k89_mkM (w : World) (base : Nat) (ok : Nat → Prop) (x : S89)  : k89.M w base ok x [.string x.f0, .int .i64 x.f1] := ⟨[.string x.f0], [.int .i64 x.f1], rfl, rfl, rfl⟩
def rd_T89 (xs : List S89) (i : Int) : S89 := xs.getD i.toNat z89
theorem at_T89 {w : World} {A : Option Addr} {n : Nat} {xs : List S89} (h : Kd.C k89 w A n xs) (i : Int) (h0 : 0 ≤ i) (h1 : i < n) : ∃ ad , A = some ad ∧ w.cell? (ad.add (i.toNat * 2)) = some (.string (rd_T89 xs i).f0) ∧ w.cell? ⟨(ad.add (i.toNat * 2)).block, (ad.add (i.toNat * 2)).off + 1, none⟩ = some (.int .i64 (rd_T89 xs i).f1) := by
  obtain ⟨ad, c, e, _, hK, hc0⟩ := Kd.C_get h z89 i h0 h1
  have hc : ∀ j u, c[j]? = some u → w.cell? (ad.add (i.toNat * 2 + j)) = some u := hc0
  obtain rfl := k89_open hK
  exact ⟨ad, e, hc 0 _ rfl, by rw [← add_field _ _ 1 (by omega)]; exact hc 1 _ rfl⟩
structure S76 where
  f0 : ByteArray
  f1 : Int
structure S74 where
  f0 : ByteArray
  f1 : ByteArray
end Go.Proofs.Ytblmjnknagpacaa.P
/- Ab -/
namespace Go.Proofs.Ytblmjnknagpacaa
theorem zb0 {P : Prop} (h : P := by intro h_; simp only [ByteArray.size_append, ByteArray.size_extract, eq_iff_iff, iff_true, iff_false, decide_eq_true_eq] at *; omega) : P := h
theorem zb1 {P : Prop} (h : P := by first | (with_reducible assumption) | assumption) : P := h
theorem zb2 {P : Prop} (h : P := by kernel_rfl) : P := h
theorem zb3 {P : Prop} (h : P := by assumption) : P := h
theorem zb4 {P : Prop} (h : P := by repeat (first | (with_reducible first | exact HB.out | apply below_alloc | apply pw_below_drewN | apply below_drew1) | exact HB.out)) : P := h
theorem zb5 {P : Prop} (h : P := by first | rfl | (simp; done) | (simp [*]; done)) : P := h
theorem zb6 {P : Prop} (h : P := by omega) : P := h
theorem zb7 {P : Prop} (h : P := by (try simp only [List.map_toArray, List.map_cons, List.map_nil]); first | done | rfl) : P := h
theorem zb8 {P : Prop} (h : P := by decide) : P := h
theorem zb9 {P : Prop} (h : P := by repeat (first | (with_reducible first | exact HB.out | apply below_alloc | apply pw_below_drewN | apply below_drew1 | refine below_set ?_ GE246.out) | exact HB.out)) : P := h
theorem zb10 {P : Prop} (h : P := by (with_reducible repeat (first | refine blk_drewN ?_ _ | refine blk_drew ?_ | refine blk_alloc ?_ _)); exact BK246.out) : P := h
end Go.Proofs.Ytblmjnknagpacaa
/- Px14 -/
namespace Go.Proofs.Ytblmjnknagpacaa.P
open Go.Proofs.Ytblmjnknagpacaa.B
open Go.RowKit Go.Proofs.YtblmjnknagpacaaW.PrintWords Go.Proofs.YtblmjnknagpacaaW.PrintLast Go.Proofs.YtblmjnknagpacaaW.PrintMore
attribute [local go_sem] run_store_float str_leq str_gtr str_geq max2_int min2_int max_two min_two max_three min_three max_four min_four
set_option linter.unusedVariables false
set_option linter.unusedSimpArgs false
mutual
def broadsheetref01_put.l0 : Nat → List (S89) → ByteArray → Int → List (S89) → Int → Option ((List (S89)))
  | 0, _, _, _, _, _ => none
  | k + 1, x0, x1, x2, x7, x8 => if x8 < (x0.length : Int) then (if 0 ≤ x8 then (if ((rd_T89 x0 x8).f0).toList = x1.toList then (broadsheetref01_put.l0 k x0 x1 x2 x7 (wrap64 (x8 + 1))) else (if x7.length < 5864062014805 then (broadsheetref01_put.l0 k x0 x1 x2 (x7 ++ [(⟨(rd_T89 x0 x8).f0, (rd_T89 x0 x8).f1⟩ : S89)]) (wrap64 (x8 + 1))) else (none))) else (none)) else (if x2 < 0 then (some x7) else (if x7.length < 5864062014805 then ((some (x7 ++ [(⟨x1, x2⟩ : S89)] : List (S89))).bind fun y106 => (broadsheetref01_put.l1 k y106 (wrap64 ((y106.length : Int) - 1)))) else (none)))
def broadsheetref01_put.l1 : Nat → List (S89) → Int → Option ((List (S89)))
  | 0, _, _ => none
  | k + 1, x7, x9 => if x9 > 0 then (if 0 ≤ x9 then (if x9 < (x7.length : Int) then (if 0 ≤ (wrap64 (x9 - 1)) then (if (wrap64 (x9 - 1)) < (x7.length : Int) then (if (Op.bytesLess (((rd_T89 x7 x9).f0).toList) (((rd_T89 x7 (wrap64 (x9 - 1))).f0).toList)) = true then (broadsheetref01_put.l1 k ((x7.set (x9 : Int).toNat (⟨(rd_T89 x7 (wrap64 (x9 - 1))).f0, (rd_T89 x7 (wrap64 (x9 - 1))).f1⟩ : S89)).set ((wrap64 (x9 - 1)) : Int).toNat (⟨(rd_T89 x7 x9).f0, (rd_T89 x7 x9).f1⟩ : S89)) (wrap64 (x9 - 1))) else (some x7)) else (none)) else (none)) else (none)) else (none)) else (some x7)
end
def broadsheetref01_put.f (k : Nat) (l0 : List (S89)) (a1 : ByteArray) (a2 : Int) : Option ((List (S89))) := broadsheetref01_put.l0 k l0 a1 a2 ([] : List (S89)) 0
def broadsheetref01_put.T11 : Bool × List (List Nat × List Nat) := (true, [([], []), ([0], [0]), ([1], [1]), ([2], [2]), ([2], [2]), ([3, 4, 2], [2, 3, 4]), ([5, 2], [2, 5]), ([6, 2], [2, 6]), ([2], [2]), ([2], [2]), ([9, 2], [2, 9]), ([8, 10, 2], [2, 8, 10]), ([11, 2], [2, 11]), ([12, 2], [2, 12]), ([7, 13, 2], [2, 7, 13]), ([2, 14], [2, 14])])
def broadsheetref01_put.B11 : List Nat := [0, 1, 3, 7, 7, 31, 63, 127, 7, 7, 519, 1799, 3847, 7943, 16383, 32767]
theorem put_less_self : ∀ a : List UInt8, Op.bytesLess a a = false
  | [] => rfl
  | a :: x => by simp [Op.bytesLess, put_less_self x]
theorem broadsheetref01_put.tab11 : rtab .any (opsOf Try.f50 11) = broadsheetref01_put.T11 := by kernel_rfl
theorem broadsheetref01_put.bits11 : waitsOk broadsheetref01_put.T11.2 broadsheetref01_put.B11 = true := by kernel_rfl
def broadsheetref01_put.T13 : Bool × List (List Nat × List Nat) := (true, [([], []), ([], []), ([], []), ([], []), ([3], [3]), ([], []), ([], []), ([6], [6]), ([5, 7], [5, 7]), ([8], [8]), ([], []), ([], []), ([10, 11], [10, 11]), ([12], [12]), ([0, 1, 0, 1, 5, 6, 7, 8, 9, 13], [0, 1]), ([14, 9, 0, 1, 5, 6, 7, 8, 9, 13], [9, 14]), ([2, 4, 0, 1, 2, 3, 4, 5, 6, 7, 8, 9, 10, 11, 12, 13, 14, 15], [2, 4]), ([16, 13, 15, 0, 1, 2, 3, 4, 5, 6, 7, 8, 9, 10, 11, 12, 13, 14, 15], [13, 16])])
def broadsheetref01_put.B13 : List Nat := [0, 0, 0, 0, 8, 0, 0, 64, 224, 480, 0, 0, 3072, 7168, 16355, 32739, 65535, 131071]
theorem broadsheetref01_put.tab13 : rtab .any (opsOf Try.f50 13) = broadsheetref01_put.T13 := by kernel_rfl
theorem broadsheetref01_put.bits13 : waitsOk broadsheetref01_put.T13.2 broadsheetref01_put.B13 = true := by kernel_rfl
set_option maxHeartbeats 8000000 in
set_option maxRecDepth 100000 in
theorem broadsheetref01_put.calls (k : Nat) (A0 : Option Addr) (c0 : Nat) (l0 : List (S89)) (a1 : ByteArray) (a2 : Int) (r : List (S89)) (w : World) (hr0 : Kd.C k89 w A0 l0.length l0) (hc0 : l0.length ≤ c0) (h : broadsheetref01_put.f k l0 a1 a2 = some r) :
  Calls Try.prog 50 #[.slice A0 l0.length c0, .string a1, .int .i64 a2] w fun e w' => ∃ v0_ : Value, e = .returned (v0_) ∧ Kd.R k89 89 w' w.heap.size (fun _ => True) v0_ r ∧ Below w.heap.size w w' := by
 have hu89 := Try.underlying89
 have HR0 := Aside0.mk hr0
 have HC0 := Aside0.mk hc0
 clear hr0 hc0
 have HB := Aside0.mk (Below.refl w.heap.size w)
 have H : (broadsheetref01_put.l0 k l0 a1 a2 ([] : List (S89)) 0) = some r := h
 clear h
 have H' := Aside0.mk H
 clear H
 go_enter Try.func50, Try.ntmps50
 go_wp2
 first | go_loopg [7, 8] k (fun kq v7 v8 w' => ∃ (x7_1 : List (S89)) (x8_1 : Int), v8 = .int .i64 x8_1 ∧ Aside0 (broadsheetref01_put.l0 kq l0 a1 a2 x7_1 x8_1 = some r) ∧ Aside0 (kq ≤ k) ∧ Aside0 (Kd.R k89 89 w' w.heap.size (fun _ => True) v7 x7_1) ∧ Aside0 (Below w.heap.size w w')) | (go_simp; go_loopg [7, 8] k (fun kq v7 v8 w' => ∃ (x7_1 : List (S89)) (x8_1 : Int), v8 = .int .i64 x8_1 ∧ Aside0 (broadsheetref01_put.l0 kq l0 a1 a2 x7_1 x8_1 = some r) ∧ Aside0 (kq ≤ k) ∧ Aside0 (Kd.R k89 89 w' w.heap.size (fun _ => True) v7 x7_1) ∧ Aside0 (Below w.heap.size w w')))
 case atStart => exact ⟨(([] : List (S89))), (0), zb5, H', ⟨Nat.le_refl _⟩, ⟨by first | exact Kd.R_nil _ _ _ _ _ | exact Kd.N_nil _ _ _ _ _ | exact Kd.V_nil _ _ _ _ _ | exact Kd.Q_nil _ _ _ _ _ | exact Kd.S_nil _ _ _ _ _⟩, ⟨by repeat (first | (with_reducible first | exact HB.out | apply below_alloc | apply pw_below_drewN | apply below_drew1) | exact HB.out)⟩⟩
 case round =>
  clear H'
  try clear p2
  obtain ⟨x7_1, x8_1, rfl, HA, HK1, HO_7, HB⟩ := hrel
  cases gk with
  | zero => exact absurd HA.out (by simp [broadsheetref01_put.l0])
  | succ k1 =>
   have H := HA.out
   clear HA
   simp only [broadsheetref01_put.l0] at H
   by_cases c4 : x8_1 < (l0.length : Int)
   ·rw [if_pos c4] at H
    have c4b0 : decide (x8_1 < (l0.length : Int)) = true := decide_eq_true c4
    clear c4
    by_cases c5 : 0 ≤ x8_1
    ·rw [if_pos c5] at H
     have c5b0 : decide (0 ≤ x8_1) = true := decide_eq_true c5
     clear c5
     by_cases c6 : ((rd_T89 l0 x8_1).f0).toList = a1.toList
     ·rw [if_pos c6] at H
      have c6b0 : (((rd_T89 l0 x8_1).f0).toList == a1.toList) = true := beq_iff_eq.mpr c6
      have c6b1 : (((rd_T89 l0 x8_1).f0).toList != a1.toList) = false := bne_eq_false_iff_eq.mpr c6
      clear c6
      have H' := Aside0.mk H
      clear H
      have p101 : 0 ≤ (x8_1 : Int) := of_decide_eq_true zb1
      have q101 : x8_1 < (l0.length : Int) := of_decide_eq_true zb1
      obtain ⟨ad101, e101, hx101_0, hx101_1⟩ := at_T89 HR0.out x8_1 p101 q101
      cases e101
      replace hx101_0 := (HB.out.cell (World.block_lt_of_cell? w _ hx101_0)).trans hx101_0
      replace hx101_1 := (HB.out.cell (World.block_lt_of_cell? w _ hx101_1)).trans hx101_1
      replace p101 := eq_true p101
      replace q101 := eq_true q101
      go_wp2
      go_roundg k1
      case measure => have := HK1.out; omega
      case rel => exact ⟨(x7_1), (wrap64 (x8_1 + 1)), zb5, H', ⟨by have := HK1.out; omega⟩, ⟨by (with_reducible repeat (first | apply Kd.R_alloc | apply Kd.R_drewN | apply Kd.R_drew)); exact HO_7.out⟩, ⟨by repeat (first | (with_reducible first | exact HB.out | apply below_alloc | apply pw_below_drewN | apply below_drew1) | exact HB.out)⟩⟩
     ·rw [if_neg c6] at H
      have c6b0 : (((rd_T89 l0 x8_1).f0).toList == a1.toList) = false := beq_eq_false_iff_ne.mpr c6
      have c6b1 : (((rd_T89 l0 x8_1).f0).toList != a1.toList) = true := bne_iff_ne.mpr c6
      by_cases c7 : x7_1.length < 5864062014805
      ·rw [if_pos c7] at H
       have LMc7 := Aside0.mk c7
       clear c7
       obtain ⟨y103, hy103⟩ : ∃ y_ : List (S89), y_ = (x7_1 ++ [(⟨(rd_T89 l0 x8_1).f0, (rd_T89 l0 x8_1).f1⟩ : S89)]) := ⟨_, rfl⟩
       replace H : (broadsheetref01_put.l0 k1 l0 a1 a2 y103 (wrap64 (x8_1 + 1))) = some r := by first | (rw [hy103]; with_reducible exact H) | (have H2_ := (Option.bind_some _ _).symm.trans H; rw [hy103]; with_reducible exact H2_) | (have H2_ := (Option.bind_some _ _).symm.trans H; with_reducible exact H2_) | with_reducible exact H | (rw [hy103]; exact H) | exact H
       have Ny103 := Aside0.mk hy103
       clear hy103
       have H' := Aside0.mk H
       clear H
       have p101 : 0 ≤ (x8_1 : Int) := of_decide_eq_true zb1
       have q101 : x8_1 < (l0.length : Int) := of_decide_eq_true zb1
       obtain ⟨ad101, e101, hx101_0, hx101_1⟩ := at_T89 HR0.out x8_1 p101 q101
       cases e101
       replace hx101_0 := (HB.out.cell (World.block_lt_of_cell? w _ hx101_0)).trans hx101_0
       replace hx101_1 := (HB.out.cell (World.block_lt_of_cell? w _ hx101_1)).trans hx101_1
       replace p101 := eq_true p101
       replace q101 := eq_true q101
       have p102 : 0 ≤ (x8_1 : Int) := of_decide_eq_true zb1
       have q102 : x8_1 < (l0.length : Int) := of_decide_eq_true zb1
       obtain ⟨ad102, e102, hx102_0, hx102_1⟩ := at_T89 HR0.out x8_1 p102 q102
       obtain rfl : ad101 = ad102 := (by injection e102)
       replace hx102_0 := (HB.out.cell (World.block_lt_of_cell? w _ hx102_0)).trans hx102_0
       replace hx102_1 := (HB.out.cell (World.block_lt_of_cell? w _ hx102_1)).trans hx102_1
       replace p102 := eq_true p102
       replace q102 := eq_true q102
       go_wp2_with (first | ((with_reducible refine gate_builtin (b := .append) (xs := #[.tmp 23, .tmp 28]) rfl ?_); at_builtin; refine Kd.R_append k89 (w0 := w) w.heap.size rfl (.tmp 23) (.tmp 28) 57 89 (.agg #[(.string ⟨#[]⟩), (.int .i64 0)]) 24 rfl Try.underlying57 info89 rfl zb8 zb6 u7 x7_1 (⟨(rd_T89 l0 x8_1).f0, (rd_T89 l0 x8_1).f1⟩ : S89) [.string ((rd_T89 l0 x8_1).f0), .int .i64 ((rd_T89 l0 x8_1).f1)] (fun _ => True) (fun _ => False) rfl rfl ?aP (fun _ hk => hk.elim) ?aF ?aO ?aB ?aS ?aL ?_; (case aP => exact k89_mkM _ _ _ (⟨(rd_T89 l0 x8_1).f0, (rd_T89 l0 x8_1).f1⟩ : S89)); (case aB => exact zb4); (case aF => exact (fun _ _ => trivial)); (case aO => exact (by (with_reducible repeat (first | apply Kd.R_alloc | apply Kd.R_drewN | apply Kd.R_drew)); exact HO_7.out)); (case aS => exact (below_size zb4)); (case aL => have := LMc7.out; omega); intro v104 w8 ho hb hg hat; rw [← Ny103.out] at ho; have n0_ := Aside0.mk (hb); have n1_ := Aside0.mk (ho); clear HB; clear HO_7; have HB := n0_; have HO105 := n1_; clear n0_ n1_; clear ho hb hg hat))
       go_roundg k1
       case measure => have := HK1.out; omega
       case rel => exact ⟨(y103), (wrap64 (x8_1 + 1)), zb5, H', ⟨by have := HK1.out; omega⟩, ⟨by (with_reducible repeat (first | apply Kd.R_alloc | apply Kd.R_drewN | apply Kd.R_drew)); exact HO105.out⟩, ⟨by repeat (first | (with_reducible first | exact HB.out | apply below_alloc | apply pw_below_drewN | apply below_drew1) | exact HB.out)⟩⟩
      ·rw [if_neg c7] at H
       exact absurd H (by simp)
    ·rw [if_neg c5] at H
     exact absurd H (by simp)
   ·rw [if_neg c4] at H
    have c4b0 : decide (x8_1 < (l0.length : Int)) = false := decide_eq_false c4
    clear c4
    by_cases c9 : a2 < 0
    ·rw [if_pos c9] at H
     have c9b0 : decide (a2 < 0) = true := decide_eq_true c9
     clear c9
     obtain rfl := Option.some.inj H
     go_wp2
     go_ret
     exact ⟨_, by first | rfl | (simp [errW_none, errW_some, bne_nil_] <;> rfl) | (simp [*, errW_none, errW_some] <;> rfl), by (with_reducible repeat (first | apply Kd.R_alloc | apply Kd.R_drewN | apply Kd.R_drew)); exact HO_7.out, zb4⟩
    ·rw [if_neg c9] at H
     have c9b0 : decide (a2 < 0) = false := decide_eq_false c9
     clear c9
     by_cases c10 : x7_1.length < 5864062014805
     ·rw [if_pos c10] at H
      have LMc10 := Aside0.mk c10
      clear c10
      obtain ⟨y106, hy106⟩ : ∃ y_ : List (S89), y_ = (x7_1 ++ [(⟨a1, a2⟩ : S89)]) := ⟨_, rfl⟩
      replace H : (broadsheetref01_put.l1 k1 y106 (wrap64 ((y106.length : Int) - 1))) = some r := by first | (rw [hy106]; with_reducible exact H) | (have H2_ := (Option.bind_some _ _).symm.trans H; rw [hy106]; with_reducible exact H2_) | (have H2_ := (Option.bind_some _ _).symm.trans H; with_reducible exact H2_) | with_reducible exact H | (rw [hy106]; exact H) | exact H
      have Ny106 := Aside0.mk hy106
      clear hy106
      have H' := Aside0.mk H
      clear H
      go_wp2_with (first | ((with_reducible refine gate_builtin (b := .append) (xs := #[.tmp 33, .tmp 37]) rfl ?_); at_builtin; refine Kd.R_append k89 (w0 := w) w.heap.size rfl (.tmp 33) (.tmp 37) 57 89 (.agg #[(.string ⟨#[]⟩), (.int .i64 0)]) 24 rfl Try.underlying57 info89 rfl zb8 zb6 u7 x7_1 (⟨a1, a2⟩ : S89) [.string a1, .int .i64 a2] (fun _ => True) (fun _ => False) rfl rfl ?aP (fun _ hk => hk.elim) ?aF ?aO ?aB ?aS ?aL ?_; (case aP => exact k89_mkM _ _ _ (⟨a1, a2⟩ : S89)); (case aB => exact zb4); (case aF => exact (fun _ _ => trivial)); (case aO => exact (by (with_reducible repeat (first | apply Kd.R_alloc | apply Kd.R_drewN | apply Kd.R_drew)); exact HO_7.out)); (case aS => exact (below_size zb4)); (case aL => have := LMc10.out; omega); intro v107 w11 ho hb hg hat; rw [← Ny106.out] at ho; have n0_ := Aside0.mk (hb); have n1_ := Aside0.mk (ho); clear HB; clear HO_7; have HB := n0_; have HO108 := n1_; clear n0_ n1_; clear ho hb hg hat; obtain ⟨Ao12, co12, eo12⟩ := Kd.R_slice HO108.out; subst eo12))
      first | go_loopg [9] k1 (fun kq v9 w' => ∃ (x7_2 : List (S89)) (x9_2 : Int), v9 = .int .i64 x9_2 ∧ Aside0 (broadsheetref01_put.l1 kq x7_2 x9_2 = some r) ∧ Aside0 (kq ≤ k1) ∧ Aside0 (Kd.R k89 89 w' w.heap.size (fun _ => True) (.slice Ao12 y106.length co12) x7_2) ∧ Aside0 (Below w.heap.size w w')) | (go_simp; go_loopg [9] k1 (fun kq v9 w' => ∃ (x7_2 : List (S89)) (x9_2 : Int), v9 = .int .i64 x9_2 ∧ Aside0 (broadsheetref01_put.l1 kq x7_2 x9_2 = some r) ∧ Aside0 (kq ≤ k1) ∧ Aside0 (Kd.R k89 89 w' w.heap.size (fun _ => True) (.slice Ao12 y106.length co12) x7_2) ∧ Aside0 (Below w.heap.size w w')))
      case atStart => exact ⟨(y106), (wrap64 ((y106.length : Int) - 1)), zb5, H', ⟨Nat.le_refl _⟩, ⟨by (with_reducible repeat (first | apply Kd.R_alloc | apply Kd.R_drewN | apply Kd.R_drew)); exact HO108.out⟩, ⟨by repeat (first | (with_reducible first | exact HB.out | apply below_alloc | apply pw_below_drewN | apply below_drew1) | exact HB.out)⟩⟩
      case round =>
       clear H'
       try clear c1
       try clear p1
       try clear q1
       try clear hx1
       try clear p2
       try clear c4
       try clear c4b0
       try clear c5
       try clear c5b0
       try clear c6
       try clear c6b0
       try clear c6b1
       try clear p6
       try clear c7
       try clear c9
       try clear c9b0
       try clear c10
       try clear p10
       try clear q10
       try clear hx10
       try clear hx101_0
       try clear hx101_1
       try clear hx102_0
       try clear hx102_1
       try clear p101
       try clear p102
       try clear p2
       try clear q101
       try clear q102
       obtain ⟨x7_2, x9_2, rfl, HA, HK2, HO_7, HB⟩ := hrel
       have hl7_2 := (Kd.R_reads' HO_7.out).1
       rw [hl7_2] at HO_7
       (try simp only [hl7_2])
       cases gk with
       | zero => exact absurd HA.out (by simp [broadsheetref01_put.l1])
       | succ k2 =>
        have H := HA.out
        clear HA
        simp only [broadsheetref01_put.l1] at H
        by_cases c13 : x9_2 > 0
        ·rw [if_pos c13] at H
         have c13b0 : decide (0 < x9_2) = true := decide_eq_true c13
         clear c13
         by_cases c14 : 0 ≤ x9_2
         ·rw [if_pos c14] at H
          have c14b0 : decide (0 ≤ x9_2) = true := decide_eq_true c14
          clear c14
          by_cases c15 : x9_2 < (x7_2.length : Int)
          ·rw [if_pos c15] at H
           have c15b0 : decide (x9_2 < (x7_2.length : Int)) = true := decide_eq_true c15
           clear c15
           obtain ⟨ji16, hji16⟩ : ∃ j_ : Int, (wrap64 (x9_2 - 1)) = j_ := ⟨_, rfl⟩
           replace H : (if 0 ≤ (ji16) then (if (ji16) < (x7_2.length : Int) then (if (Op.bytesLess (((rd_T89 x7_2 x9_2).f0).toList) (((rd_T89 x7_2 (ji16)).f0).toList)) = true then (broadsheetref01_put.l1 k2 ((x7_2.set (x9_2 : Int).toNat (⟨(rd_T89 x7_2 (ji16)).f0, (rd_T89 x7_2 (ji16)).f1⟩ : S89)).set ((ji16) : Int).toNat (⟨(rd_T89 x7_2 x9_2).f0, (rd_T89 x7_2 x9_2).f1⟩ : S89)) ji16) else (some x7_2)) else (none)) else (none)) = some r := by first | (rw [hji16] at H; exact H) | (simp only [hji16] at H ⊢; exact H)
           have hji16w : (IntKind.i64.wrap (x9_2 - 1)) = ji16 := (i64_w _).trans hji16
           by_cases c17 : 0 ≤ (ji16)
           ·rw [if_pos c17] at H
            have c17b0 : decide (0 ≤ (ji16)) = true := decide_eq_true c17
            clear c17
            by_cases c18 : (ji16) < (x7_2.length : Int)
            ·rw [if_pos c18] at H
             have c18b0 : decide ((ji16) < (x7_2.length : Int)) = true := decide_eq_true c18
             clear c18
             by_cases c19 : (Op.bytesLess (((rd_T89 x7_2 x9_2).f0).toList) (((rd_T89 x7_2 (ji16)).f0).toList)) = true
             ·rw [if_pos c19] at H
              have c19b0 : (Op.bytesLess (((rd_T89 x7_2 x9_2).f0).toList) (((rd_T89 x7_2 (ji16)).f0).toList)) = true := c19
              clear c19
              obtain ⟨y113, hy113⟩ : ∃ y_ : List (S89), y_ = (x7_2.set (x9_2 : Int).toNat (⟨(rd_T89 x7_2 (ji16)).f0, (rd_T89 x7_2 (ji16)).f1⟩ : S89)) := ⟨_, rfl⟩
              replace H : (broadsheetref01_put.l1 k2 (y113.set ((ji16) : Int).toNat (⟨(rd_T89 x7_2 x9_2).f0, (rd_T89 x7_2 x9_2).f1⟩ : S89)) ji16) = some r := by first | (rw [hy113]; with_reducible exact H) | (have H2_ := (Option.bind_some _ _).symm.trans H; rw [hy113]; with_reducible exact H2_) | (have H2_ := (Option.bind_some _ _).symm.trans H; with_reducible exact H2_) | with_reducible exact H | (rw [hy113]; exact H) | exact H
              have Ny113 := Aside0.mk hy113
              clear hy113
              obtain ⟨y114, hy114⟩ : ∃ y_ : List (S89), y_ = (y113.set ((ji16) : Int).toNat (⟨(rd_T89 x7_2 x9_2).f0, (rd_T89 x7_2 x9_2).f1⟩ : S89)) := ⟨_, rfl⟩
              replace H : (broadsheetref01_put.l1 k2 y114 ji16) = some r := by first | (rw [hy114]; with_reducible exact H) | (have H2_ := (Option.bind_some _ _).symm.trans H; rw [hy114]; with_reducible exact H2_) | (have H2_ := (Option.bind_some _ _).symm.trans H; with_reducible exact H2_) | with_reducible exact H | (rw [hy114]; exact H) | exact H
              have Ny114 := Aside0.mk hy114
              clear hy114
              have H' := Aside0.mk H
              clear H
              try go_wp2
              have n0_ := Aside0.mk (Kd.R_drew HO_7.out)
              have n1_ := Aside0.mk (below_drew1 HB.out)
              clear HO_7
              clear HB
              have HO_7 := n0_
              have HB := n1_
              clear n0_ n1_
              have p109 : 0 ≤ (x9_2 : Int) := of_decide_eq_true zb1
              have q109 : x9_2 < (x7_2.length : Int) := of_decide_eq_true zb1
              obtain ⟨ad109, e109, hx109_0, hx109_1⟩ := at_T89 (Kd.R_reads' HO_7.out).2.2 x9_2 p109 q109
              cases e109
              replace p109 := eq_true p109
              replace q109 := eq_true q109
              have p110 : 0 ≤ ((ji16) : Int) := of_decide_eq_true zb1
              have q110 : (ji16) < (x7_2.length : Int) := of_decide_eq_true zb1
              obtain ⟨ad110, e110, hx110_0, hx110_1⟩ := at_T89 (Kd.R_reads' HO_7.out).2.2 (ji16) p110 q110
              obtain rfl : ad109 = ad110 := (by injection e110)
              replace p110 := eq_true p110
              replace q110 := eq_true q110
              refine start_ (n := 16) (S := fun w' => w'.cell? (ad109.add ((x9_2).toNat * 2)) = some (.string ((rd_T89 x7_2 x9_2).f0)) ∧ w'.cell? ⟨(ad109.add ((x9_2).toNat * 2)).block, (ad109.add ((x9_2).toNat * 2)).off + 1, none⟩ = some (.int .i64 ((rd_T89 x7_2 x9_2).f1)) ∧ w'.cell? (ad109.add (((ji16)).toNat * 2)) = some (.string ((rd_T89 x7_2 (ji16)).f0)) ∧ w'.cell? ⟨(ad109.add (((ji16)).toNat * 2)).block, (ad109.add (((ji16)).toNat * 2)).off + 1, none⟩ = some (.int .i64 ((rd_T89 x7_2 (ji16)).f1))) (ds := []) #[false, false, false, false, false, false, false, false, false, false, false, false, false, false, false, false] zb2 rfl rfl ⟨hx109_0, hx109_1, hx110_0, hx110_1⟩ (fun hHeld => ?_); refine with_tabW broadsheetref01_put.tab11 broadsheetref01_put.bits11 (fun HT_ HW_ => ?_)
              generalize wr.drew = w22 at HO_7 HB hx109_0 hx109_1 hx110_0 hx110_1 hHeld ⊢
              refine pure_ (i := 0) (N := some 42) (v := ?_) (a' := ?_) #[true, false, false, false, false, false, false, false, false, false, false, false, false, false, false, false] rfl rfl (any_of HT_.out zb2) (fun _ _ _ h => h) (Or.inl ⟨by rfl, ?_⟩) ?_ ?_
              rotate_left
              ·intro w'
               go_simp
               first | with_reducible rfl | (rw [if_neg zb0])
              rotate_left
              ·simp only [Act.put, List.setIfInBounds_toArray, List.set_cons_zero, List.set_cons_succ, i64_w, i32_w]
               rfl
              refine pure_ (i := 1) (N := some 43) (v := ?_) (a' := ?_) #[true, true, false, false, false, false, false, false, false, false, false, false, false, false, false, false] rfl rfl (any_of HT_.out zb2) (fun _ _ _ h => h) (Or.inl ⟨by rfl, ?_⟩) ?_ ?_
              rotate_left
              ·intro w'
               go_simp
               first | with_reducible rfl | (rw [if_neg zb0])
              rotate_left
              ·simp only [Act.put, List.setIfInBounds_toArray, List.set_cons_zero, List.set_cons_succ, i64_w, i32_w]
               rfl
              refine pure_ (i := 2) (N := some 44) (v := ?_) (a' := ?_) #[true, true, true, false, false, false, false, false, false, false, false, false, false, false, false, false] rfl rfl (any_of HT_.out zb2) (fun _ _ _ h => h) (Or.inl ⟨by rfl, ?_⟩) ?_ ?_
              rotate_left
              ·intro w'
               go_simp
               first | with_reducible rfl | (rw [if_neg zb0])
              rotate_left
              ·simp only [Act.put, List.setIfInBounds_toArray, List.set_cons_zero, List.set_cons_succ, i64_w, i32_w]
               rfl
              refine pure_ (i := 3) (N := some 45) (v := ?_) (a' := ?_) #[true, true, true, true, false, false, false, false, false, false, false, false, false, false, false, false] rfl rfl (any_of HT_.out zb2) (fun _ _ _ h => h) (Or.inl ⟨by rfl, ?_⟩) ?_ ?_
              rotate_left
              ·intro w'
               go_simp
               first | with_reducible rfl | (rw [if_neg zb0])
              rotate_left
              ·simp only [Act.put, List.setIfInBounds_toArray, List.set_cons_zero, List.set_cons_succ, i64_w, i32_w]
               rfl
              refine pure_ (i := 4) (N := some 46) (v := ?_) (a' := ?_) #[true, true, true, true, true, false, false, false, false, false, false, false, false, false, false, false] rfl rfl (any_of HT_.out zb2) (fun _ _ _ h => h) (Or.inl ⟨by rfl, ?_⟩) ?_ ?_
              rotate_left
              ·intro w'
               go_simp
               first | with_reducible rfl | (rw [if_neg zb0])
              rotate_left
              ·simp only [Act.put, List.setIfInBounds_toArray, List.set_cons_zero, List.set_cons_succ, i64_w, i32_w]
               rfl
              refine pure_ (i := 5) (N := some 47) (v := ?_) (a' := ?_) #[true, true, true, true, true, true, false, false, false, false, false, false, false, false, false, false] rfl rfl (any_of HT_.out zb2) (fun _ _ _ h => h) (Or.inl ⟨by rfl, ?_⟩) ?_ ?_
              rotate_left
              ·intro w'
               go_simp
               first | with_reducible rfl | (rw [if_neg zb0])
              rotate_left
              ·simp only [Act.put, List.setIfInBounds_toArray, List.set_cons_zero, List.set_cons_succ, i64_w, i32_w]
               rfl
              refine pure_ (i := 6) (N := some 48) (v := ?_) (a' := ?_) #[true, true, true, true, true, true, true, false, false, false, false, false, false, false, false, false] rfl rfl (any_of HT_.out zb2) (fun _ _ _ h => h) (Or.inl ⟨by rfl, ?_⟩) ?_ ?_
              rotate_left
              ·intro w'
               go_simp
               first | with_reducible rfl | (rw [if_neg zb0])
              rotate_left
              ·simp only [Act.put, List.setIfInBounds_toArray, List.set_cons_zero, List.set_cons_succ, i64_w, i32_w]
               rfl
              refine pure_ (i := 8) (N := some 50) (v := ?_) (a' := ?_) #[true, true, true, true, true, true, true, false, true, false, false, false, false, false, false, false] rfl rfl (any_of HT_.out zb2) (fun _ _ _ h => h) (Or.inl ⟨by rfl, ?_⟩) ?_ ?_
              rotate_left
              ·intro w'
               go_simp
               first | with_reducible rfl | (rw [if_neg zb0])
              rotate_left
              ·simp only [Act.put, List.setIfInBounds_toArray, List.set_cons_zero, List.set_cons_succ, i64_w, i32_w]
               rfl
              refine pure_ (i := 9) (N := some 51) (v := ?_) (a' := ?_) #[true, true, true, true, true, true, true, false, true, true, false, false, false, false, false, false] rfl rfl (any_of HT_.out zb2) (fun _ _ _ h => h) (Or.inl ⟨by rfl, ?_⟩) ?_ ?_
              rotate_left
              ·intro w'
               go_simp
               first | with_reducible rfl | (rw [if_neg zb0])
              rotate_left
              ·simp only [Act.put, List.setIfInBounds_toArray, List.set_cons_zero, List.set_cons_succ, i64_w, i32_w]
               rfl
              refine pure_ (i := 10) (N := some 52) (v := ?_) (a' := ?_) #[true, true, true, true, true, true, true, false, true, true, true, false, false, false, false, false] rfl rfl (any_of HT_.out zb2) (fun _ _ _ h => h) (Or.inl ⟨by rfl, ?_⟩) ?_ ?_
              rotate_left
              ·intro w'
               go_simp
               first | with_reducible rfl | (rw [if_neg zb0])
              rotate_left
              ·simp only [Act.put, List.setIfInBounds_toArray, List.set_cons_zero, List.set_cons_succ, i64_w, i32_w]
               rfl
              refine pure_ (i := 11) (N := some 53) (v := ?_) (a' := ?_) #[true, true, true, true, true, true, true, false, true, true, true, true, false, false, false, false] rfl rfl (any_of HT_.out zb2) (fun _ _ _ h => h) (Or.inl ⟨by rfl, ?_⟩) ?_ ?_
              rotate_left
              ·intro w'
               go_simp
               first | with_reducible rfl | (rw [if_neg zb0])
              rotate_left
              ·simp only [Act.put, List.setIfInBounds_toArray, List.set_cons_zero, List.set_cons_succ, i64_w, i32_w]
               rfl
              refine pure_ (i := 12) (N := some 54) (v := ?_) (a' := ?_) #[true, true, true, true, true, true, true, false, true, true, true, true, true, false, false, false] rfl rfl (any_of HT_.out zb2) (fun _ _ _ h => h) (Or.inl ⟨by rfl, ?_⟩) ?_ ?_
              rotate_left
              ·intro w'
               go_simp
               first | with_reducible rfl | (rw [if_neg zb0])
              rotate_left
              ·simp only [Act.put, List.setIfInBounds_toArray, List.set_cons_zero, List.set_cons_succ, i64_w, i32_w]
               rfl
              refine take_ (i := 7) (N := some 49) (v := ?_) (a' := ?_) #[true, true, true, true, true, true, true, true, true, true, true, true, true, false, false, false] rfl rfl (take_ofW HT_.out HW_.out zb2) (fun _ _ _ h => h) (Or.inl ⟨by rfl, ?_⟩) hHeld ?_ ?_
              rotate_left
              ·rintro w' ⟨s0, s1, s2, s3⟩
               go_simp
               first | with_reducible rfl | (rw [if_neg zb0])
              rotate_left
              ·simp only [Act.put, List.setIfInBounds_toArray, List.set_cons_zero, List.set_cons_succ, i64_w, i32_w]
               rfl
              refine take_ (i := 13) (N := some 55) (v := ?_) (a' := ?_) #[true, true, true, true, true, true, true, true, true, true, true, true, true, true, false, false] rfl rfl (take_ofW HT_.out HW_.out zb2) (fun _ _ _ h => h) (Or.inl ⟨by rfl, ?_⟩) hHeld ?_ ?_
              rotate_left
              ·rintro w' ⟨s0, s1, s2, s3⟩
               go_simp
               first | with_reducible rfl | (rw [if_neg zb0])
              rotate_left
              ·simp only [Act.put, List.setIfInBounds_toArray, List.set_cons_zero, List.set_cons_succ, i64_w, i32_w]
               rfl
              refine pure_ (i := 14) (N := some 56) (v := ?_) (a' := ?_) #[true, true, true, true, true, true, true, true, true, true, true, true, true, true, true, false] rfl rfl (any_of HT_.out zb2) (fun _ _ _ h => h) (Or.inl ⟨by rfl, ?_⟩) ?_ ?_
              rotate_left
              ·intro w'
               go_simp
               first | with_reducible rfl | (rw [if_neg zb0])
              rotate_left
              ·simp only [Act.put, List.setIfInBounds_toArray, List.set_cons_zero, List.set_cons_succ, i64_w, i32_w]
               rfl
              refine pure_ (i := 15) (N := some 57) (v := ?_) (a' := ?_) #[true, true, true, true, true, true, true, true, true, true, true, true, true, true, true, true] rfl rfl (any_of HT_.out zb2) (fun _ _ _ h => h) (Or.inl ⟨by rfl, ?_⟩) ?_ ?_
              rotate_left
              ·intro w'
               go_simp
               first | with_reducible rfl | (rw [if_neg zb0])
              rotate_left
              ·simp only [Act.put, List.setIfInBounds_toArray, List.set_cons_zero, List.set_cons_succ, i64_w, i32_w]
               rfl
              refine done_ (done_of HT_.out zb2) ?_
              try go_wp2
              have n0_ := Aside0.mk (Kd.R_drew HO_7.out)
              have n1_ := Aside0.mk (below_drew1 HB.out)
              clear HO_7
              clear HB
              have HO_7 := n0_
              have HB := n1_
              clear n0_ n1_
              have p111 : 0 ≤ ((ji16) : Int) := of_decide_eq_true zb1
              have q111 : (ji16) < (x7_2.length : Int) := of_decide_eq_true zb1
              obtain ⟨ad111, e111, hx111_0, hx111_1⟩ := at_T89 (Kd.R_reads' HO_7.out).2.2 (ji16) p111 q111
              obtain rfl : ad109 = ad111 := (by injection e111)
              replace p111 := eq_true p111
              replace q111 := eq_true q111
              have p112 : 0 ≤ (x9_2 : Int) := of_decide_eq_true zb1
              have q112 : x9_2 < (x7_2.length : Int) := of_decide_eq_true zb1
              obtain ⟨ad112, e112, hx112_0, hx112_1⟩ := at_T89 (Kd.R_reads' HO_7.out).2.2 x9_2 p112 q112
              obtain rfl : ad109 = ad112 := (by injection e112)
              replace p112 := eq_true p112
              replace q112 := eq_true q112
              have p20 : 0 ≤ (x9_2 : Int) := of_decide_eq_true zb1
              have q20 : (x9_2 : Int) < ((x7_2.length : Int) : Int) := of_decide_eq_true zb1
              obtain ⟨go20, co20, eo20, gb20, gl20, cl20, HG20⟩ := Kd.R_form HO_7.out zb6
              (first | cases eo20 | (injection eo20 with ea_ en_ ec_; (first | subst ea_ | (injection ea_ with ea_; subst ea_)); subst ec_; clear en_))
              have GB20 := Aside0.mk gb20
              have GG20 := Aside0.mk HG20
              clear gb20 gl20 HG20
              (first | simp only [add_plain] at hx109_0 | skip)
              (first | simp only [add_plain] at hx109_1 | skip)
              (first | simp only [add_plain] at hx110_0 | skip)
              (first | simp only [add_plain] at hx110_1 | skip)
              (first | simp only [add_plain] at hx111_0 | skip)
              (first | simp only [add_plain] at hx111_1 | skip)
              (first | simp only [add_plain] at hx112_0 | skip)
              (first | simp only [add_plain] at hx112_1 | skip)
              obtain ⟨ce20, hcl20, hM20, hcc20, hfr20⟩ := Kd.R_elem HO_7.out z89 (x9_2 : Int) p20 q20
              obtain rfl := k89_openM hM20
              have hx20_0 : World.cell? _ ⟨go20, (x9_2 : Int).toNat * 2, none⟩ = some (.string ((rd_T89 x7_2 x9_2).f0)) := hcc20 0 _ rfl
              have hx20_1 : World.cell? _ ⟨go20, (x9_2 : Int).toNat * 2 + 1, none⟩ = some (.int .i64 ((rd_T89 x7_2 x9_2).f1)) := hcc20 1 _ rfl
              have hf20_0 : World.frozen? _ ⟨go20, (x9_2 : Int).toNat * 2, none⟩ = false := hfr20 0
              have hf20_1 : World.frozen? _ ⟨go20, (x9_2 : Int).toNat * 2 + 1, none⟩ = false := hfr20 1
              clear hcl20 hcc20 hfr20 hM20
              replace p20 := eq_true p20
              replace q20 := eq_true q20
              obtain ⟨ce24, hcl24, hM24, hcc24, hfr24⟩ := Kd.R_elem HO_7.out z89 (x9_2 : Int) (of_decide_eq_true zb1) (by have h_ : (x9_2 : Int) < ((x7_2.length : Int) : Int) := of_decide_eq_true zb1; first | exact h_ | (have e_ := (Kd.R_reads' HO_7.out).1; omega) | simpa using h_)
              obtain rfl := k89_openM hM24
              have HP24 := (Kd.R_seg HO_7.out (x9_2 : Int) (of_decide_eq_true zb1) (by have h_ : (x9_2 : Int) < ((x7_2.length : Int) : Int) := of_decide_eq_true zb1; first | exact h_ | (have e_ := (Kd.R_reads' HO_7.out).1; omega) | simpa using h_) (seg := [.string ((rd_T89 x7_2 (ji16)).f0), .int .i64 ((rd_T89 x7_2 (ji16)).f1)]) (j := 0) hcl24 hcc24 (show 2 ≤ 2 from by decide) (x' := (⟨(rd_T89 x7_2 (ji16)).f0, (rd_T89 x7_2 (ji16)).f1⟩ : S89)) (k89_mkM _ _ _ (⟨(rd_T89 x7_2 (ji16)).f0, (rd_T89 x7_2 (ji16)).f1⟩ : S89) ) (fun _ hk => hk)).1
              rw [← Ny113.out] at HP24
              have HQ24 := Aside0.mk HP24
              clear hcl24 hcc24 hfr24 hM24 HP24
              have p21 : 0 ≤ ((ji16) : Int) := of_decide_eq_true zb1
              have q21 : ((ji16) : Int) < ((x7_2.length : Int) : Int) := of_decide_eq_true zb1
              obtain ⟨ce21, hcl21, hM21, hcc21, hfr21⟩ := Kd.R_elem HQ24.out z89 ((ji16) : Int) p21 q21
              obtain rfl := k89_openM hM21
              have hx21_0 : World.cell? _ ⟨go20, ((ji16) : Int).toNat * 2, none⟩ = some (.string ((rd_T89 y113 (ji16)).f0)) := hcc21 0 _ rfl
              have hx21_1 : World.cell? _ ⟨go20, ((ji16) : Int).toNat * 2 + 1, none⟩ = some (.int .i64 ((rd_T89 y113 (ji16)).f1)) := hcc21 1 _ rfl
              have hf21_0 : World.frozen? _ ⟨go20, ((ji16) : Int).toNat * 2, none⟩ = false := hfr21 0
              have hf21_1 : World.frozen? _ ⟨go20, ((ji16) : Int).toNat * 2 + 1, none⟩ = false := hfr21 1
              clear hcl21 hcc21 hfr21 hM21
              replace p21 := eq_true p21
              replace q21 := eq_true q21
              obtain ⟨ce25, hcl25, hM25, hcc25, hfr25⟩ := Kd.R_elem HQ24.out z89 ((ji16) : Int) (of_decide_eq_true zb1) (by have h_ : ((ji16) : Int) < ((x7_2.length : Int) : Int) := of_decide_eq_true zb1; first | exact h_ | (have e_ := (Kd.R_reads' HO_7.out).1; omega) | simpa using h_)
              obtain rfl := k89_openM hM25
              have HP25 := (Kd.R_seg HQ24.out ((ji16) : Int) (of_decide_eq_true zb1) (by have h_ : ((ji16) : Int) < ((x7_2.length : Int) : Int) := of_decide_eq_true zb1; first | exact h_ | (have e_ := (Kd.R_reads' HO_7.out).1; omega) | simpa using h_) (seg := [.string ((rd_T89 x7_2 x9_2).f0), .int .i64 ((rd_T89 x7_2 x9_2).f1)]) (j := 0) hcl25 hcc25 (show 2 ≤ 2 from by decide) (x' := (⟨(rd_T89 x7_2 x9_2).f0, (rd_T89 x7_2 x9_2).f1⟩ : S89)) (k89_mkM _ _ _ (⟨(rd_T89 x7_2 x9_2).f0, (rd_T89 x7_2 x9_2).f1⟩ : S89) ) (fun _ hk => hk)).1
              rw [← Ny114.out] at HP25
              have HQ25 := Aside0.mk HP25
              clear hcl25 hcc25 hfr25 hM25 HP25
              refine start_ (n := 18) (S := fun w' => w'.cell? ⟨go20, (((ji16)).toNat * 2), none⟩ = some (.string ((rd_T89 x7_2 (ji16)).f0)) ∧ w'.cell? ⟨go20, (((ji16)).toNat * 2) + 1, none⟩ = some (.int .i64 ((rd_T89 x7_2 (ji16)).f1)) ∧ w'.cell? ⟨go20, ((x9_2).toNat * 2), none⟩ = some (.string ((rd_T89 x7_2 x9_2).f0)) ∧ w'.cell? ⟨go20, ((x9_2).toNat * 2) + 1, none⟩ = some (.int .i64 ((rd_T89 x7_2 x9_2).f1))) (ds := [15, 17]) #[false, false, false, false, false, false, false, false, false, false, false, false, false, false, false, false, false, false] zb2 rfl rfl ⟨hx111_0, hx111_1, hx112_0, hx112_1⟩ (fun hHeld => ?_); refine with_tabW broadsheetref01_put.tab13 broadsheetref01_put.bits13 (fun HT_ HW_ => ?_)
              generalize w22.drew = w23 at HO_7 HB GG20 HQ24 HQ25 hf20_0 hf20_1 hf21_0 hf21_1 hx109_0 hx109_1 hx110_0 hx110_1 hx111_0 hx111_1 hx112_0 hx112_1 hx20_0 hx20_1 hx21_0 hx21_1 hHeld ⊢
              refine pure_ (i := 0) (N := some 60) (v := ?_) (a' := ?_) #[true, false, false, false, false, false, false, false, false, false, false, false, false, false, false, false, false, false] rfl rfl (any_of HT_.out zb2) (fun _ _ _ h => h) (Or.inl ⟨by rfl, ?_⟩) ?_ ?_
              rotate_left
              ·intro w'
               go_simp
               first | with_reducible rfl | (rw [if_neg zb0])
              rotate_left
              ·simp only [Act.put, List.setIfInBounds_toArray, List.set_cons_zero, List.set_cons_succ, i64_w, i32_w]
               rfl
              refine pure_ (i := 1) (N := some 61) (v := ?_) (a' := ?_) #[true, true, false, false, false, false, false, false, false, false, false, false, false, false, false, false, false, false] rfl rfl (any_of HT_.out zb2) (fun _ _ _ h => h) (Or.inl ⟨by rfl, ?_⟩) ?_ ?_
              rotate_left
              ·intro w'
               go_simp
               first | with_reducible rfl | (rw [if_neg zb0])
              rotate_left
              ·simp only [Act.put, List.setIfInBounds_toArray, List.set_cons_zero, List.set_cons_succ, i64_w, i32_w]
               rfl
              refine pure_ (i := 2) (N := some 62) (v := ?_) (a' := ?_) #[true, true, true, false, false, false, false, false, false, false, false, false, false, false, false, false, false, false] rfl rfl (any_of HT_.out zb2) (fun _ _ _ h => h) (Or.inl ⟨by rfl, ?_⟩) ?_ ?_
              rotate_left
              ·intro w'
               go_simp
               first | with_reducible rfl | (rw [if_neg zb0])
              rotate_left
              ·simp only [Act.put, List.setIfInBounds_toArray, List.set_cons_zero, List.set_cons_succ, i64_w, i32_w]
               rfl
              refine pure_ (i := 3) (N := some 63) (v := ?_) (a' := ?_) #[true, true, true, true, false, false, false, false, false, false, false, false, false, false, false, false, false, false] rfl rfl (any_of HT_.out zb2) (fun _ _ _ h => h) (Or.inl ⟨by rfl, ?_⟩) ?_ ?_
              rotate_left
              ·intro w'
               go_simp
               first | with_reducible rfl | (rw [if_neg zb0])
              rotate_left
              ·simp only [Act.put, List.setIfInBounds_toArray, List.set_cons_zero, List.set_cons_succ, i64_w, i32_w]
               rfl
              refine pure_ (i := 4) (N := some 64) (v := ?_) (a' := ?_) #[true, true, true, true, true, false, false, false, false, false, false, false, false, false, false, false, false, false] rfl rfl (any_of HT_.out zb2) (fun _ _ _ h => h) (Or.inl ⟨by rfl, ?_⟩) ?_ ?_
              rotate_left
              ·intro w'
               go_simp
               first | with_reducible rfl | (rw [if_neg zb0])
              rotate_left
              ·simp only [Act.put, List.setIfInBounds_toArray, List.set_cons_zero, List.set_cons_succ, i64_w, i32_w]
               rfl
              refine pure_ (i := 5) (N := some 65) (v := ?_) (a' := ?_) #[true, true, true, true, true, true, false, false, false, false, false, false, false, false, false, false, false, false] rfl rfl (any_of HT_.out zb2) (fun _ _ _ h => h) (Or.inl ⟨by rfl, ?_⟩) ?_ ?_
              rotate_left
              ·intro w'
               go_simp
               first | with_reducible rfl | (rw [if_neg zb0])
              rotate_left
              ·simp only [Act.put, List.setIfInBounds_toArray, List.set_cons_zero, List.set_cons_succ, i64_w, i32_w]
               rfl
              refine pure_ (i := 6) (N := some 66) (v := ?_) (a' := ?_) #[true, true, true, true, true, true, true, false, false, false, false, false, false, false, false, false, false, false] rfl rfl (any_of HT_.out zb2) (fun _ _ _ h => h) (Or.inl ⟨by rfl, ?_⟩) ?_ ?_
              rotate_left
              ·intro w'
               go_simp
               first | with_reducible rfl | (rw [if_neg zb0])
              rotate_left
              ·simp only [Act.put, List.setIfInBounds_toArray, List.set_cons_zero, List.set_cons_succ, i64_w, i32_w]
               rfl
              refine pure_ (i := 7) (N := some 67) (v := ?_) (a' := ?_) #[true, true, true, true, true, true, true, true, false, false, false, false, false, false, false, false, false, false] rfl rfl (any_of HT_.out zb2) (fun _ _ _ h => h) (Or.inl ⟨by rfl, ?_⟩) ?_ ?_
              rotate_left
              ·intro w'
               go_simp
               first | with_reducible rfl | (rw [if_neg zb0])
              rotate_left
              ·simp only [Act.put, List.setIfInBounds_toArray, List.set_cons_zero, List.set_cons_succ, i64_w, i32_w]
               rfl
              refine pure_ (i := 8) (N := some 68) (v := ?_) (a' := ?_) #[true, true, true, true, true, true, true, true, true, false, false, false, false, false, false, false, false, false] rfl rfl (any_of HT_.out zb2) (fun _ _ _ h => h) (Or.inl ⟨by rfl, ?_⟩) ?_ ?_
              rotate_left
              ·intro w'
               go_simp
               first | with_reducible rfl | (rw [if_neg zb0])
              rotate_left
              ·simp only [Act.put, List.setIfInBounds_toArray, List.set_cons_zero, List.set_cons_succ, i64_w, i32_w]
               rfl
              refine pure_ (i := 10) (N := some 70) (v := ?_) (a' := ?_) #[true, true, true, true, true, true, true, true, true, false, true, false, false, false, false, false, false, false] rfl rfl (any_of HT_.out zb2) (fun _ _ _ h => h) (Or.inl ⟨by rfl, ?_⟩) ?_ ?_
              rotate_left
              ·intro w'
               go_simp
               first | with_reducible rfl | (rw [if_neg zb0])
              rotate_left
              ·simp only [Act.put, List.setIfInBounds_toArray, List.set_cons_zero, List.set_cons_succ, i64_w, i32_w]
               rfl
              refine pure_ (i := 11) (N := some 71) (v := ?_) (a' := ?_) #[true, true, true, true, true, true, true, true, true, false, true, true, false, false, false, false, false, false] rfl rfl (any_of HT_.out zb2) (fun _ _ _ h => h) (Or.inl ⟨by rfl, ?_⟩) ?_ ?_
              rotate_left
              ·intro w'
               go_simp
               first | with_reducible rfl | (rw [if_neg zb0])
              rotate_left
              ·simp only [Act.put, List.setIfInBounds_toArray, List.set_cons_zero, List.set_cons_succ, i64_w, i32_w]
               rfl
              refine pure_ (i := 12) (N := some 72) (v := ?_) (a' := ?_) #[true, true, true, true, true, true, true, true, true, false, true, true, true, false, false, false, false, false] rfl rfl (any_of HT_.out zb2) (fun _ _ _ h => h) (Or.inl ⟨by rfl, ?_⟩) ?_ ?_
              rotate_left
              ·intro w'
               go_simp
               first | with_reducible rfl | (rw [if_neg zb0])
              rotate_left
              ·simp only [Act.put, List.setIfInBounds_toArray, List.set_cons_zero, List.set_cons_succ, i64_w, i32_w]
               rfl
              refine take_ (i := 9) (N := some 69) (v := ?_) (a' := ?_) #[true, true, true, true, true, true, true, true, true, true, true, true, true, false, false, false, false, false] rfl rfl (take_ofW HT_.out HW_.out zb2) (fun _ _ _ h => h) (Or.inl ⟨by rfl, ?_⟩) hHeld ?_ ?_
              rotate_left
              ·rintro w' ⟨s0, s1, s2, s3⟩
               go_simp
               first | with_reducible rfl | (rw [if_neg zb0])
              rotate_left
              ·simp only [Act.put, List.setIfInBounds_toArray, List.set_cons_zero, List.set_cons_succ, i64_w, i32_w]
               rfl
              refine take_ (i := 13) (N := some 73) (v := ?_) (a' := ?_) #[true, true, true, true, true, true, true, true, true, true, true, true, true, true, false, false, false, false] rfl rfl (take_ofW HT_.out HW_.out zb2) (fun _ _ _ h => h) (Or.inl ⟨by rfl, ?_⟩) hHeld ?_ ?_
              rotate_left
              ·rintro w' ⟨s0, s1, s2, s3⟩
               go_simp
               first | with_reducible rfl | (rw [if_neg zb0])
              rotate_left
              ·simp only [Act.put, List.setIfInBounds_toArray, List.set_cons_zero, List.set_cons_succ, i64_w, i32_w]
               rfl
              refine pure_ (i := 14) (N := some 74) (v := ?_) (a' := ?_) #[true, true, true, true, true, true, true, true, true, true, true, true, true, true, true, false, false, false] rfl rfl (any_of HT_.out zb2) (fun _ _ _ h => h) (Or.inl ⟨by rfl, ?_⟩) ?_ ?_
              rotate_left
              ·intro w'
               go_simp
               first | with_reducible rfl | (rw [if_neg zb0])
              rotate_left
              ·simp only [Act.put, List.setIfInBounds_toArray, List.set_cons_zero, List.set_cons_succ, i64_w, i32_w]
               rfl
              refine last_ (i := 15) (N := none) #[true, true, true, true, true, true, true, true, true, true, true, true, true, true, true, true, false, false] rfl rfl (one_of HT_.out zb2) zb8 (fun K hK => ?_)
              refine skip_ (w1 := ?_) (by rfl) rfl ?_ ?_
              rotate_left
              ·go_simp
               rfl
              refine hK.out _ _ ?_
              clear hK K
              refine pure_ (i := 16) (N := some 75) (v := ?_) (a' := ?_) #[true, true, true, true, true, true, true, true, true, true, true, true, true, true, true, true, true, false] rfl rfl (any_of HT_.out zb2) (fun _ _ _ h => h) (Or.inl ⟨by rfl, ?_⟩) ?_ ?_
              rotate_left
              ·intro w'
               go_simp
               first | with_reducible rfl | (rw [if_neg zb0])
              rotate_left
              ·simp only [Act.put, List.setIfInBounds_toArray, List.set_cons_zero, List.set_cons_succ, i64_w, i32_w]
               rfl
              refine last_ (i := 17) (N := none) #[true, true, true, true, true, true, true, true, true, true, true, true, true, true, true, true, true, true] rfl rfl (one_of HT_.out zb2) zb8 (fun K hK => ?_)
              refine skip_ (w1 := ?_) (by rfl) rfl ?_ ?_
              rotate_left
              ·have hne_ : ¬ (x9_2.toNat * 2 = ji16.toNat * 2) := by
                intro e_
                have e2_ : x9_2 = ji16 := by have := of_decide_eq_true c14b0; have := of_decide_eq_true c17b0; omega
                rw [e2_, put_less_self] at c19b0
                cases c19b0
               have hne2_ : ¬ (ji16.toNat * 2 = x9_2.toNat * 2) := fun e_ => hne_ e_.symm
               have hne3_ : ¬ (ji16.toNat * 2 = x9_2.toNat * 2 + 1) := by omega
               have hne4_ : ¬ (x9_2.toNat * 2 + 1 = ji16.toNat * 2) := by omega
               have hne5_ : ¬ (ji16.toNat * 2 + 1 = x9_2.toNat * 2) := by omega
               have hne6_ : ¬ (x9_2.toNat * 2 = ji16.toNat * 2 + 1) := by omega
               have hz0_ := hf21_0
               have hz1_ := hf21_1
               simp only [World.setCells, World.frozen?_setCell] at hz0_ hz1_
               go_simp
               rfl
              refine hK.out _ _ ?_
              clear hK K
              refine done_ (done_of HT_.out zb2) ?_
              try go_wp2
              (try simp only [← hl7_2])
              go_roundg k2
              case measure => have := HK1.out; have := HK2.out; omega
              case rel => exact ⟨(y114), (ji16), (by first | rfl | (simp; done) | (simp only [← hji16] <;> (first | rfl | simp)) | (simp [*]; done)), H', ⟨by have := HK1.out; have := HK2.out; omega⟩, ⟨by (try simp only [hl7_2]); (with_reducible repeat (first | apply Kd.R_alloc | apply Kd.R_drewN | apply Kd.R_drew)); exact HQ25.out⟩, ⟨by repeat (first | (with_reducible first | exact HB.out | apply below_alloc | apply pw_below_drewN | apply below_drew1 | refine below_set ?_ GB20.out | refine below_set ?_ GB20.out | refine below_set ?_ GB20.out | refine below_set ?_ GB20.out) | exact HB.out)⟩⟩
             ·rw [if_neg c19] at H
              have c19b0 : (Op.bytesLess (((rd_T89 x7_2 x9_2).f0).toList) (((rd_T89 x7_2 (ji16)).f0).toList)) = false := by simpa using c19
              clear c19
              obtain rfl := Option.some.inj H
              try go_wp2
              have n0_ := Aside0.mk (Kd.R_drew HO_7.out)
              have n1_ := Aside0.mk (below_drew1 HB.out)
              clear HO_7
              clear HB
              have HO_7 := n0_
              have HB := n1_
              clear n0_ n1_
              have p109 : 0 ≤ (x9_2 : Int) := of_decide_eq_true zb1
              have q109 : x9_2 < (x7_2.length : Int) := of_decide_eq_true zb1
              obtain ⟨ad109, e109, hx109_0, hx109_1⟩ := at_T89 (Kd.R_reads' HO_7.out).2.2 x9_2 p109 q109
              cases e109
              replace p109 := eq_true p109
              replace q109 := eq_true q109
              have p110 : 0 ≤ ((ji16) : Int) := of_decide_eq_true zb1
              have q110 : (ji16) < (x7_2.length : Int) := of_decide_eq_true zb1
              obtain ⟨ad110, e110, hx110_0, hx110_1⟩ := at_T89 (Kd.R_reads' HO_7.out).2.2 (ji16) p110 q110
              obtain rfl : ad109 = ad110 := (by injection e110)
              replace p110 := eq_true p110
              replace q110 := eq_true q110
              refine start_ (n := 16) (S := fun w' => w'.cell? (ad109.add ((x9_2).toNat * 2)) = some (.string ((rd_T89 x7_2 x9_2).f0)) ∧ w'.cell? ⟨(ad109.add ((x9_2).toNat * 2)).block, (ad109.add ((x9_2).toNat * 2)).off + 1, none⟩ = some (.int .i64 ((rd_T89 x7_2 x9_2).f1)) ∧ w'.cell? (ad109.add (((ji16)).toNat * 2)) = some (.string ((rd_T89 x7_2 (ji16)).f0)) ∧ w'.cell? ⟨(ad109.add (((ji16)).toNat * 2)).block, (ad109.add (((ji16)).toNat * 2)).off + 1, none⟩ = some (.int .i64 ((rd_T89 x7_2 (ji16)).f1))) (ds := []) #[false, false, false, false, false, false, false, false, false, false, false, false, false, false, false, false] zb2 rfl rfl ⟨hx109_0, hx109_1, hx110_0, hx110_1⟩ (fun hHeld => ?_); refine with_tabW broadsheetref01_put.tab11 broadsheetref01_put.bits11 (fun HT_ HW_ => ?_)
              generalize wr.drew = w26 at HO_7 HB hx109_0 hx109_1 hx110_0 hx110_1 hHeld ⊢
              refine pure_ (i := 0) (N := some 42) (v := ?_) (a' := ?_) #[true, false, false, false, false, false, false, false, false, false, false, false, false, false, false, false] rfl rfl (any_of HT_.out zb2) (fun _ _ _ h => h) (Or.inl ⟨by rfl, ?_⟩) ?_ ?_
              rotate_left
              ·intro w'
               go_simp
               first | with_reducible rfl | (rw [if_neg zb0])
              rotate_left
              ·simp only [Act.put, List.setIfInBounds_toArray, List.set_cons_zero, List.set_cons_succ, i64_w, i32_w]
               rfl
              refine pure_ (i := 1) (N := some 43) (v := ?_) (a' := ?_) #[true, true, false, false, false, false, false, false, false, false, false, false, false, false, false, false] rfl rfl (any_of HT_.out zb2) (fun _ _ _ h => h) (Or.inl ⟨by rfl, ?_⟩) ?_ ?_
              rotate_left
              ·intro w'
               go_simp
               first | with_reducible rfl | (rw [if_neg zb0])
              rotate_left
              ·simp only [Act.put, List.setIfInBounds_toArray, List.set_cons_zero, List.set_cons_succ, i64_w, i32_w]
               rfl
              refine pure_ (i := 2) (N := some 44) (v := ?_) (a' := ?_) #[true, true, true, false, false, false, false, false, false, false, false, false, false, false, false, false] rfl rfl (any_of HT_.out zb2) (fun _ _ _ h => h) (Or.inl ⟨by rfl, ?_⟩) ?_ ?_
              rotate_left
              ·intro w'
               go_simp
               first | with_reducible rfl | (rw [if_neg zb0])
              rotate_left
              ·simp only [Act.put, List.setIfInBounds_toArray, List.set_cons_zero, List.set_cons_succ, i64_w, i32_w]
               rfl
              refine pure_ (i := 3) (N := some 45) (v := ?_) (a' := ?_) #[true, true, true, true, false, false, false, false, false, false, false, false, false, false, false, false] rfl rfl (any_of HT_.out zb2) (fun _ _ _ h => h) (Or.inl ⟨by rfl, ?_⟩) ?_ ?_
              rotate_left
              ·intro w'
               go_simp
               first | with_reducible rfl | (rw [if_neg zb0])
              rotate_left
              ·simp only [Act.put, List.setIfInBounds_toArray, List.set_cons_zero, List.set_cons_succ, i64_w, i32_w]
               rfl
              refine pure_ (i := 4) (N := some 46) (v := ?_) (a' := ?_) #[true, true, true, true, true, false, false, false, false, false, false, false, false, false, false, false] rfl rfl (any_of HT_.out zb2) (fun _ _ _ h => h) (Or.inl ⟨by rfl, ?_⟩) ?_ ?_
              rotate_left
              ·intro w'
               go_simp
               first | with_reducible rfl | (rw [if_neg zb0])
              rotate_left
              ·simp only [Act.put, List.setIfInBounds_toArray, List.set_cons_zero, List.set_cons_succ, i64_w, i32_w]
               rfl
              refine pure_ (i := 5) (N := some 47) (v := ?_) (a' := ?_) #[true, true, true, true, true, true, false, false, false, false, false, false, false, false, false, false] rfl rfl (any_of HT_.out zb2) (fun _ _ _ h => h) (Or.inl ⟨by rfl, ?_⟩) ?_ ?_
              rotate_left
              ·intro w'
               go_simp
               first | with_reducible rfl | (rw [if_neg zb0])
              rotate_left
              ·simp only [Act.put, List.setIfInBounds_toArray, List.set_cons_zero, List.set_cons_succ, i64_w, i32_w]
               rfl
              refine pure_ (i := 6) (N := some 48) (v := ?_) (a' := ?_) #[true, true, true, true, true, true, true, false, false, false, false, false, false, false, false, false] rfl rfl (any_of HT_.out zb2) (fun _ _ _ h => h) (Or.inl ⟨by rfl, ?_⟩) ?_ ?_
              rotate_left
              ·intro w'
               go_simp
               first | with_reducible rfl | (rw [if_neg zb0])
              rotate_left
              ·simp only [Act.put, List.setIfInBounds_toArray, List.set_cons_zero, List.set_cons_succ, i64_w, i32_w]
               rfl
              refine pure_ (i := 8) (N := some 50) (v := ?_) (a' := ?_) #[true, true, true, true, true, true, true, false, true, false, false, false, false, false, false, false] rfl rfl (any_of HT_.out zb2) (fun _ _ _ h => h) (Or.inl ⟨by rfl, ?_⟩) ?_ ?_
              rotate_left
              ·intro w'
               go_simp
               first | with_reducible rfl | (rw [if_neg zb0])
              rotate_left
              ·simp only [Act.put, List.setIfInBounds_toArray, List.set_cons_zero, List.set_cons_succ, i64_w, i32_w]
               rfl
              refine pure_ (i := 9) (N := some 51) (v := ?_) (a' := ?_) #[true, true, true, true, true, true, true, false, true, true, false, false, false, false, false, false] rfl rfl (any_of HT_.out zb2) (fun _ _ _ h => h) (Or.inl ⟨by rfl, ?_⟩) ?_ ?_
              rotate_left
              ·intro w'
               go_simp
               first | with_reducible rfl | (rw [if_neg zb0])
              rotate_left
              ·simp only [Act.put, List.setIfInBounds_toArray, List.set_cons_zero, List.set_cons_succ, i64_w, i32_w]
               rfl
              refine pure_ (i := 10) (N := some 52) (v := ?_) (a' := ?_) #[true, true, true, true, true, true, true, false, true, true, true, false, false, false, false, false] rfl rfl (any_of HT_.out zb2) (fun _ _ _ h => h) (Or.inl ⟨by rfl, ?_⟩) ?_ ?_
              rotate_left
              ·intro w'
               go_simp
               first | with_reducible rfl | (rw [if_neg zb0])
              rotate_left
              ·simp only [Act.put, List.setIfInBounds_toArray, List.set_cons_zero, List.set_cons_succ, i64_w, i32_w]
               rfl
              refine pure_ (i := 11) (N := some 53) (v := ?_) (a' := ?_) #[true, true, true, true, true, true, true, false, true, true, true, true, false, false, false, false] rfl rfl (any_of HT_.out zb2) (fun _ _ _ h => h) (Or.inl ⟨by rfl, ?_⟩) ?_ ?_
              rotate_left
              ·intro w'
               go_simp
               first | with_reducible rfl | (rw [if_neg zb0])
              rotate_left
              ·simp only [Act.put, List.setIfInBounds_toArray, List.set_cons_zero, List.set_cons_succ, i64_w, i32_w]
               rfl
              refine pure_ (i := 12) (N := some 54) (v := ?_) (a' := ?_) #[true, true, true, true, true, true, true, false, true, true, true, true, true, false, false, false] rfl rfl (any_of HT_.out zb2) (fun _ _ _ h => h) (Or.inl ⟨by rfl, ?_⟩) ?_ ?_
              rotate_left
              ·intro w'
               go_simp
               first | with_reducible rfl | (rw [if_neg zb0])
              rotate_left
              ·simp only [Act.put, List.setIfInBounds_toArray, List.set_cons_zero, List.set_cons_succ, i64_w, i32_w]
               rfl
              refine take_ (i := 7) (N := some 49) (v := ?_) (a' := ?_) #[true, true, true, true, true, true, true, true, true, true, true, true, true, false, false, false] rfl rfl (take_ofW HT_.out HW_.out zb2) (fun _ _ _ h => h) (Or.inl ⟨by rfl, ?_⟩) hHeld ?_ ?_
              rotate_left
              ·rintro w' ⟨s0, s1, s2, s3⟩
               go_simp
               first | with_reducible rfl | (rw [if_neg zb0])
              rotate_left
              ·simp only [Act.put, List.setIfInBounds_toArray, List.set_cons_zero, List.set_cons_succ, i64_w, i32_w]
               rfl
              refine take_ (i := 13) (N := some 55) (v := ?_) (a' := ?_) #[true, true, true, true, true, true, true, true, true, true, true, true, true, true, false, false] rfl rfl (take_ofW HT_.out HW_.out zb2) (fun _ _ _ h => h) (Or.inl ⟨by rfl, ?_⟩) hHeld ?_ ?_
              rotate_left
              ·rintro w' ⟨s0, s1, s2, s3⟩
               go_simp
               first | with_reducible rfl | (rw [if_neg zb0])
              rotate_left
              ·simp only [Act.put, List.setIfInBounds_toArray, List.set_cons_zero, List.set_cons_succ, i64_w, i32_w]
               rfl
              refine pure_ (i := 14) (N := some 56) (v := ?_) (a' := ?_) #[true, true, true, true, true, true, true, true, true, true, true, true, true, true, true, false] rfl rfl (any_of HT_.out zb2) (fun _ _ _ h => h) (Or.inl ⟨by rfl, ?_⟩) ?_ ?_
              rotate_left
              ·intro w'
               go_simp
               first | with_reducible rfl | (rw [if_neg zb0])
              rotate_left
              ·simp only [Act.put, List.setIfInBounds_toArray, List.set_cons_zero, List.set_cons_succ, i64_w, i32_w]
               rfl
              refine pure_ (i := 15) (N := some 57) (v := ?_) (a' := ?_) #[true, true, true, true, true, true, true, true, true, true, true, true, true, true, true, true] rfl rfl (any_of HT_.out zb2) (fun _ _ _ h => h) (Or.inl ⟨by rfl, ?_⟩) ?_ ?_
              rotate_left
              ·intro w'
               go_simp
               first | with_reducible rfl | (rw [if_neg zb0])
              rotate_left
              ·simp only [Act.put, List.setIfInBounds_toArray, List.set_cons_zero, List.set_cons_succ, i64_w, i32_w]
               rfl
              refine done_ (done_of HT_.out zb2) ?_
              try go_wp2
              go_ret
              exact ⟨_, by first | rfl | (simp [errW_none, errW_some, bne_nil_] <;> rfl) | (simp only [← hji16]; first | rfl | (simp [errW_none, errW_some, bne_nil_] <;> rfl)) | (simp [*, errW_none, errW_some] <;> rfl), by (with_reducible repeat (first | apply Kd.R_alloc | apply Kd.R_drewN | apply Kd.R_drew)); exact HO_7.out, zb4⟩
            ·rw [if_neg c18] at H
             exact absurd H (by simp)
           ·rw [if_neg c17] at H
            exact absurd H (by simp)
          ·rw [if_neg c15] at H
           exact absurd H (by simp)
         ·rw [if_neg c14] at H
          exact absurd H (by simp)
        ·rw [if_neg c13] at H
         have c13b0 : decide (0 < x9_2) = false := decide_eq_false c13
         clear c13
         obtain rfl := Option.some.inj H
         try go_wp2
         have n0_ := Aside0.mk (Kd.R_drew HO_7.out)
         have n1_ := Aside0.mk (below_drew1 HB.out)
         clear HO_7
         clear HB
         have HO_7 := n0_
         have HB := n1_
         clear n0_ n1_
         refine start_ (n := 16) (S := fun w' => True) (ds := []) #[false, false, false, false, false, false, false, false, false, false, false, false, false, false, false, false] zb2 rfl rfl trivial (fun hHeld => ?_); refine with_tabW broadsheetref01_put.tab11 broadsheetref01_put.bits11 (fun HT_ HW_ => ?_)
         generalize wr.drew = w27 at HO_7 HB hHeld ⊢
         refine pure_ (i := 0) (N := some 42) (v := ?_) (a' := ?_) #[true, false, false, false, false, false, false, false, false, false, false, false, false, false, false, false] rfl rfl (any_of HT_.out zb2) (fun _ _ _ h => h) (Or.inl ⟨by rfl, ?_⟩) ?_ ?_
         rotate_left
         ·intro w'
          go_simp
          first | with_reducible rfl | (rw [if_neg zb0])
         rotate_left
         ·simp only [Act.put, List.setIfInBounds_toArray, List.set_cons_zero, List.set_cons_succ, i64_w, i32_w]
          rfl
         refine pure_ (i := 1) (N := some 43) (v := ?_) (a' := ?_) #[true, true, false, false, false, false, false, false, false, false, false, false, false, false, false, false] rfl rfl (any_of HT_.out zb2) (fun _ _ _ h => h) (Or.inl ⟨by rfl, ?_⟩) ?_ ?_
         rotate_left
         ·intro w'
          go_simp
          first | with_reducible rfl | (rw [if_neg zb0])
         rotate_left
         ·simp only [Act.put, List.setIfInBounds_toArray, List.set_cons_zero, List.set_cons_succ, i64_w, i32_w]
          rfl
         refine pure_ (i := 2) (N := some 44) (v := ?_) (a' := ?_) #[true, true, true, false, false, false, false, false, false, false, false, false, false, false, false, false] rfl rfl (any_of HT_.out zb2) (fun _ _ _ h => h) (Or.inl ⟨by rfl, ?_⟩) ?_ ?_
         rotate_left
         ·intro w'
          go_simp
          first | with_reducible rfl | (rw [if_neg zb0])
         rotate_left
         ·simp only [Act.put, List.setIfInBounds_toArray, List.set_cons_zero, List.set_cons_succ, i64_w, i32_w]
          rfl
         refine pure_ (i := 3) (N := some 45) (v := undef) (a' := ?_) #[true, true, true, true, false, false, false, false, false, false, false, false, false, false, false, false] rfl rfl (any_of HT_.out zb2) (fun _ _ _ h => h) (Or.inr ⟨by rfl, rfl⟩) ?_ ?_
         rotate_left
         ·simp only [Act.put, List.setIfInBounds_toArray, List.set_cons_zero, List.set_cons_succ, i64_w, i32_w]
          rfl
         refine pure_ (i := 4) (N := some 46) (v := undef) (a' := ?_) #[true, true, true, true, true, false, false, false, false, false, false, false, false, false, false, false] rfl rfl (any_of HT_.out zb2) (fun _ _ _ h => h) (Or.inr ⟨by rfl, rfl⟩) ?_ ?_
         rotate_left
         ·simp only [Act.put, List.setIfInBounds_toArray, List.set_cons_zero, List.set_cons_succ, i64_w, i32_w]
          rfl
         refine pure_ (i := 5) (N := some 47) (v := undef) (a' := ?_) #[true, true, true, true, true, true, false, false, false, false, false, false, false, false, false, false] rfl rfl (any_of HT_.out zb2) (fun _ _ _ h => h) (Or.inr ⟨by rfl, rfl⟩) ?_ ?_
         rotate_left
         ·simp only [Act.put, List.setIfInBounds_toArray, List.set_cons_zero, List.set_cons_succ, i64_w, i32_w]
          rfl
         refine pure_ (i := 6) (N := some 48) (v := undef) (a' := ?_) #[true, true, true, true, true, true, true, false, false, false, false, false, false, false, false, false] rfl rfl (any_of HT_.out zb2) (fun _ _ _ h => h) (Or.inr ⟨by rfl, rfl⟩) ?_ ?_
         rotate_left
         ·simp only [Act.put, List.setIfInBounds_toArray, List.set_cons_zero, List.set_cons_succ, i64_w, i32_w]
          rfl
         refine pure_ (i := 7) (N := some 49) (v := undef) (a' := ?_) #[true, true, true, true, true, true, true, true, false, false, false, false, false, false, false, false] rfl rfl (any_of HT_.out zb2) (fun _ _ _ h => h) (Or.inr ⟨by rfl, rfl⟩) ?_ ?_
         rotate_left
         ·simp only [Act.put, List.setIfInBounds_toArray, List.set_cons_zero, List.set_cons_succ, i64_w, i32_w]
          rfl
         refine pure_ (i := 8) (N := some 50) (v := undef) (a' := ?_) #[true, true, true, true, true, true, true, true, true, false, false, false, false, false, false, false] rfl rfl (any_of HT_.out zb2) (fun _ _ _ h => h) (Or.inr ⟨by rfl, rfl⟩) ?_ ?_
         rotate_left
         ·simp only [Act.put, List.setIfInBounds_toArray, List.set_cons_zero, List.set_cons_succ, i64_w, i32_w]
          rfl
         refine pure_ (i := 9) (N := some 51) (v := undef) (a' := ?_) #[true, true, true, true, true, true, true, true, true, true, false, false, false, false, false, false] rfl rfl (any_of HT_.out zb2) (fun _ _ _ h => h) (Or.inr ⟨by rfl, rfl⟩) ?_ ?_
         rotate_left
         ·simp only [Act.put, List.setIfInBounds_toArray, List.set_cons_zero, List.set_cons_succ, i64_w, i32_w]
          rfl
         refine pure_ (i := 10) (N := some 52) (v := undef) (a' := ?_) #[true, true, true, true, true, true, true, true, true, true, true, false, false, false, false, false] rfl rfl (any_of HT_.out zb2) (fun _ _ _ h => h) (Or.inr ⟨by rfl, rfl⟩) ?_ ?_
         rotate_left
         ·simp only [Act.put, List.setIfInBounds_toArray, List.set_cons_zero, List.set_cons_succ, i64_w, i32_w]
          rfl
         refine pure_ (i := 11) (N := some 53) (v := undef) (a' := ?_) #[true, true, true, true, true, true, true, true, true, true, true, true, false, false, false, false] rfl rfl (any_of HT_.out zb2) (fun _ _ _ h => h) (Or.inr ⟨by rfl, rfl⟩) ?_ ?_
         rotate_left
         ·simp only [Act.put, List.setIfInBounds_toArray, List.set_cons_zero, List.set_cons_succ, i64_w, i32_w]
          rfl
         refine pure_ (i := 12) (N := some 54) (v := undef) (a' := ?_) #[true, true, true, true, true, true, true, true, true, true, true, true, true, false, false, false] rfl rfl (any_of HT_.out zb2) (fun _ _ _ h => h) (Or.inr ⟨by rfl, rfl⟩) ?_ ?_
         rotate_left
         ·simp only [Act.put, List.setIfInBounds_toArray, List.set_cons_zero, List.set_cons_succ, i64_w, i32_w]
          rfl
         refine pure_ (i := 13) (N := some 55) (v := undef) (a' := ?_) #[true, true, true, true, true, true, true, true, true, true, true, true, true, true, false, false] rfl rfl (any_of HT_.out zb2) (fun _ _ _ h => h) (Or.inr ⟨by rfl, rfl⟩) ?_ ?_
         rotate_left
         ·simp only [Act.put, List.setIfInBounds_toArray, List.set_cons_zero, List.set_cons_succ, i64_w, i32_w]
          rfl
         refine pure_ (i := 14) (N := some 56) (v := undef) (a' := ?_) #[true, true, true, true, true, true, true, true, true, true, true, true, true, true, true, false] rfl rfl (any_of HT_.out zb2) (fun _ _ _ h => h) (Or.inr ⟨by rfl, rfl⟩) ?_ ?_
         rotate_left
         ·simp only [Act.put, List.setIfInBounds_toArray, List.set_cons_zero, List.set_cons_succ, i64_w, i32_w]
          rfl
         refine pure_ (i := 15) (N := some 57) (v := ?_) (a' := ?_) #[true, true, true, true, true, true, true, true, true, true, true, true, true, true, true, true] rfl rfl (any_of HT_.out zb2) (fun _ _ _ h => h) (Or.inl ⟨by rfl, ?_⟩) ?_ ?_
         rotate_left
         ·intro w'
          go_simp
          first | with_reducible rfl | (rw [if_neg zb0])
         rotate_left
         ·simp only [Act.put, List.setIfInBounds_toArray, List.set_cons_zero, List.set_cons_succ, i64_w, i32_w]
          rfl
         refine done_ (done_of HT_.out zb2) ?_
         try go_wp2
         go_ret
         exact ⟨_, by first | rfl | (simp [errW_none, errW_some, bne_nil_] <;> rfl) | (simp [*, errW_none, errW_some] <;> rfl), by (with_reducible repeat (first | apply Kd.R_alloc | apply Kd.R_drewN | apply Kd.R_drew)); exact HO_7.out, zb4⟩
     ·rw [if_neg c10] at H
      exact absurd H (by simp)
end Go.Proofs.Ytblmjnknagpacaa.P
/- PlRa -/
namespace Go.Proofs.Ytblmjnknagpacaa.Pl
open Go Go.RowKit Go.Maps Go.Proofs.YtblmjnknagpacaaW.PrintWords
set_option linter.unusedVariables false
set_option linter.unusedSimpArgs false
section
variable {α : Type} {f : α → List Value} {a b : α → Value}
theorem two_len (hf : ∀ x, f x = [a x, b x]) : ∀ l : List α, (l.flatMap f).length = l.length * 2
  | [] => rfl
  | x :: l => by
    rw [List.flatMap_cons, List.length_append, two_len hf l, hf, List.length_cons]
    simp
    omega
theorem two_at (hf : ∀ x, f x = [a x, b x]) : ∀ (l : List α) (i : Nat) (x : α), l[i]? = some x → (l.flatMap f)[i * 2]? = some (a x) ∧ (l.flatMap f)[i * 2 + 1]? = some (b x)
  | [], _, _, h => by simp at h
  | y :: l, 0, x, h => by
    have e : y = x := by simpa using h
    subst e
    rw [List.flatMap_cons, hf]
    exact ⟨rfl, rfl⟩
  | y :: l, i + 1, x, h => by
    have h1 := two_at hf l i x (by simpa using h)
    rw [List.flatMap_cons, hf]
    have e : (i + 1) * 2 = i * 2 + 1 + 1 := by omega
    rw [e]
    exact h1
theorem two_set (hf : ∀ x, f x = [a x, b x]) : ∀ (l : List α) (i : Nat) (x : α), i < l.length → (l.set i x).flatMap f = ((l.flatMap f).set (i * 2) (a x)).set (i * 2 + 1) (b x)
  | [], _, _, h => by simp at h
  | y :: l, 0, x, _ => by
    rw [List.set_cons_zero, List.flatMap_cons, List.flatMap_cons, hf, hf]
    rfl
  | y :: l, i + 1, x, h => by
    have h1 := two_set hf l i x (by simpa using h)
    have e : (i + 1) * 2 = i * 2 + 1 + 1 := by omega
    rw [List.set_cons_succ, List.flatMap_cons, List.flatMap_cons, h1, hf, e]
    rfl
end
def slotC (p : L × Nat) : List Value := [.string (mkB p.1), .int .i64 (p.2 : Int)]
def slotsC (d : Dir) : List Value := d.flatMap slotC
def keyI : Option Nat → Int
  | some k => (k : Int)
  | none => -1
def rstepC (s : Stp) : List Value := [.string (mkB s.1), .int .i64 (keyI s.2)]
def rstepsC (l : List Stp) : List Value := l.flatMap rstepC
def filC (f : Fil) : List Value := [.string (mkB f.safe), .string (mkB f.loose)]
def filsC (l : List Fil) : List Value := l.flatMap filC
theorem slotsC_len (d : Dir) : (slotsC d).length = d.length * 2 := two_len (fun _ => rfl) d
theorem slotsC_at (d : Dir) (i : Nat) (p : L × Nat) (h : d[i]? = some p) : (slotsC d)[i * 2]? = some (.string (mkB p.1)) ∧ (slotsC d)[i * 2 + 1]? = some (.int .i64 (p.2 : Int)) := two_at (fun _ => rfl) d i p h
theorem rstepsC_at (l : List Stp) (i : Nat) (s : Stp) (h : l[i]? = some s) : (rstepsC l)[i * 2]? = some (.string (mkB s.1)) ∧ (rstepsC l)[i * 2 + 1]? = some (.int .i64 (keyI s.2)) := two_at (fun _ => rfl) l i s h
theorem filsC_at (l : List Fil) (i : Nat) (f : Fil) (h : l[i]? = some f) : (filsC l)[i * 2]? = some (.string (mkB f.safe)) ∧ (filsC l)[i * 2 + 1]? = some (.string (mkB f.loose)) := two_at (fun _ => rfl) l i f h
theorem filsC_set (l : List Fil) (i : Nat) (f : Fil) (h : i < l.length) : filsC (l.set i f) = ((filsC l).set (i * 2) (.string (mkB f.safe))).set (i * 2 + 1) (.string (mkB f.loose)) := two_set (fun _ => rfl) l i f h
abbrev Sl := P.S89
def toS (p : L × Nat) : Sl := ⟨mkB p.1, (p.2 : Int)⟩
theorem rd_toS (d : Dir) (i : Nat) (p : L × Nat) (h : d[i]? = some p) : P.rd_T89 (d.map toS) (i : Int) = toS p := by
  unfold P.rd_T89
  rw [Int.toNat_natCast, List.getD_eq_getElem?_getD, List.getElem?_map, h]
  rfl
theorem mkB_toList (l : L) : (mkB l).toList = l := by rw [ByteArray.toList_eq, mkB_data]
theorem wrap_nat (n : Nat) (h : n ≤ 9223372036854775807) : wrap64 (n : Int) = (n : Int) := by unfold wrap64; omega
theorem put_loop1 (d pre post : Dir) (x : L × Nat) (hs : Sorted pre) (hpost : ∀ y ∈ post, bytesBefore x.1 y.1 = true) (hn : pre.length + post.length < 1000000000) (K : Nat) (hK : pre.length + 1 ≤ K) :
    P.broadsheetref01_put.l1 K ((pre ++ x :: post).map toS) (pre.length : Int) = some ((ins x (pre ++ post)).map toS) := by
  induction hl : pre.length generalizing pre post K with
  | zero =>
    have : pre = [] := List.eq_nil_of_length_eq_zero hl
    subst this
    obtain ⟨K, rfl⟩ : ∃ J, K = J + 1 := ⟨K - 1, by simp at hK; omega⟩
    unfold P.broadsheetref01_put.l1
    rw [if_neg (by simp)]
    rw [ins_mid x [] post (fun y hy => by simp at hy) hpost]
  | succ n ih =>
    obtain ⟨K, rfl⟩ : ∃ J, K = J + 1 := ⟨K - 1, by omega⟩
    obtain ⟨q, y, rfl⟩ : ∃ q y, pre = q ++ [y] := ⟨pre.dropLast, pre.getLast (by rintro rfl; simp at hl), (List.dropLast_concat_getLast _).symm⟩
    have hq : q.length = n := by simpa using hl
    have e1 : (q ++ [y] ++ x :: post)[n]? = some y := by
      rw [List.append_assoc, List.getElem?_append_right zb6, hq]
      simp
    have e2 : (q ++ [y] ++ x :: post)[n + 1]? = some x := by
      rw [List.getElem?_append_right (by simp; omega)]
      simp [hq]
    have hlen : (q ++ [y] ++ x :: post).length = n + 1 + (post.length + 1) := by simp; omega
    have hw : wrap64 (((n + 1 : Nat) : Int) - 1) = (n : Int) := by
      rw [show ((n + 1 : Nat) : Int) - 1 = (n : Int) by omega]
      exact wrap_nat _ (by simp at hn; omega)
    unfold P.broadsheetref01_put.l1
    rw [if_pos zb6, if_pos zb6, if_pos (by rw [List.length_map, hlen]; omega), hw, if_pos zb6, if_pos (by rw [List.length_map, hlen]; omega)]
    rw [rd_toS _ _ _ e1, rd_toS _ _ _ e2]
    have hb : Op.bytesLess ((toS x).f0).toList ((toS y).f0).toList = bytesBefore x.1 y.1 := by
      unfold toS
      simp only
      rw [mkB_toList, mkB_toList, less_before]
    rw [hb]
    cases hxy : bytesBefore x.1 y.1 with
    | false =>
      rw [if_neg zb8, ins_mid x (q ++ [y]) post (sink_stop hs hxy) hpost]
    | true =>
      rw [if_pos rfl]
      have hset : (((q ++ [y] ++ x :: post).map toS).set ((n + 1 : Nat) : Int).toNat (⟨(toS y).f0, (toS y).f1⟩ : Sl)).set ((n : Nat) : Int).toNat (⟨(toS x).f0, (toS x).f1⟩ : Sl) = (q ++ x :: (y :: post)).map toS := by
        rw [Int.toNat_natCast, Int.toNat_natCast]
        show (((q ++ [y] ++ x :: post).map toS).set (n + 1) (toS y)).set n (toS x) = _
        rw [← List.map_set, ← List.map_set]
        congr 1
        subst hq
        rw [List.append_assoc, List.set_append_right _ _ zb6]
        simp
      rw [hset]
      have h1 := ih q (y :: post) (List.pairwise_append.1 hs).1 (fun z hz => by
        rcases List.mem_cons.1 hz with rfl | hz
        · exact hxy
        · exact hpost z hz) (by simp at hn ⊢; omega) K zb6 hq
      rw [h1]
      congr 2
      rw [List.append_assoc]
      rfl
theorem rid_snoc (n : L) (d : Dir) (p : L × Nat) : rid n (d ++ [p]) = if p.1 = n then rid n d else rid n d ++ [p] := by
  unfold rid
  rw [List.filter_append]
  by_cases h : p.1 = n
  · rw [if_pos h]; simp [h]
  · rw [if_neg h]; simp [h]
theorem put_loop0 (d : Dir) (s : ByteArray) (x2 : Int) (hn : d.length < 1000000000) (K : Nat) : ∀ (j i : Nat), i + j = d.length →
    P.broadsheetref01_put.l0 (j + (K + 1)) (d.map toS) s x2 ((rid s.data.toList (d.take i)).map toS) (i : Int) =
      if x2 < 0 then some ((rid s.data.toList d).map toS) else P.broadsheetref01_put.l1 K ((rid s.data.toList d).map toS ++ [(⟨s, x2⟩ : Sl)]) ((rid s.data.toList d).length : Int)
  | 0, i, h => by
    have hi : i = d.length := by omega
    subst hi
    have hr := rid_len s.data.toList d
    rw [Nat.zero_add]
    unfold P.broadsheetref01_put.l0
    rw [if_neg (by simp), List.take_length]
    split
    · rfl
    · rw [if_pos (by rw [List.length_map]; omega)]
      show P.broadsheetref01_put.l1 K _ _ = _
      congr 1
      rw [List.length_append, List.length_map]
      simp only [List.length_singleton]
      rw [show (((rid s.data.toList d).length + 1 : Nat) : Int) - 1 = ((rid s.data.toList d).length : Int) by omega]
      exact wrap_nat _ zb6
  | j + 1, i, h => by
    have ih := put_loop0 d s x2 hn K j (i + 1) zb6
    have hi : i < d.length := by omega
    obtain ⟨p, hp⟩ : ∃ p, d[i]? = some p := ⟨_, List.getElem?_eq_getElem hi⟩
    have ht : d.take (i + 1) = d.take i ++ [p] := by rw [List.take_add_one, hp]; rfl
    have hr := rid_len s.data.toList (d.take i)
    have hw : wrap64 ((i : Int) + 1) = ((i + 1 : Nat) : Int) := by
      rw [show (i : Int) + 1 = ((i + 1 : Nat) : Int) by omega]
      exact wrap_nat _ zb6
    rw [← ih, Nat.succ_add, ht, rid_snoc]
    conv => lhs; unfold P.broadsheetref01_put.l0
    rw [if_pos (by rw [List.length_map]; omega), if_pos zb6, rd_toS _ _ _ hp, hw]
    have e : ((toS p).f0).toList = p.1 := mkB_toList _
    rw [e, ByteArray.toList_eq]
    by_cases h1 : p.1 = s.data.toList
    · rw [if_pos h1, if_pos h1]
    · rw [if_neg h1, if_neg h1, if_pos (by rw [List.length_map]; have := List.length_take_le i d; omega), List.map_append]
      rfl
theorem put_plain (d : Dir) (s : ByteArray) (o : Option Nat) (hs : Sorted d) (hn : d.length < 1000000000) : ∃ K, P.broadsheetref01_put.f K (d.map toS) s (keyI o) = some ((put d (s.data.toList, o)).map toS) := by
  have h0 := put_loop0 d s (keyI o) hn (d.length + 1) d.length 0 zb6
  refine ⟨d.length + (d.length + 1 + 1), ?_⟩
  unfold P.broadsheetref01_put.f
  have hr := rid_len s.data.toList d
  refine h0.trans ?_
  cases o with
  | none =>
    rw [if_pos (by simp [keyI])]
    rfl
  | some k =>
    rw [if_neg (by simp [keyI])]
    have e : (⟨s, keyI (some k)⟩ : Sl) = toS (s.data.toList, k) := by
      unfold toS
      rw [mkB_self]
      rfl
    rw [e]
    have h1 := put_loop1 d (rid s.data.toList d) [] (s.data.toList, k) (sorted_rid hs) (fun y hy => by simp at hy) (by simp; omega) (d.length + 1) zb6
    rw [List.append_nil, List.map_append] at h1
    exact h1
theorem reps_toS (w : World) (d : Dir) : Reps (P.k89.K w) 2 (d.map toS) (slotsC d) := by
  refine ⟨by rw [slotsC_len, List.length_map], fun j p hj => ?_⟩
  rw [List.getElem?_map] at hj
  obtain ⟨q, hq, rfl⟩ := Option.map_eq_some_iff.1 hj
  obtain ⟨h1, h2⟩ := slotsC_at d j q hq
  have e : ((slotsC d).drop (j * 2)).take 2 = [.string (mkB q.1), .int .i64 (q.2 : Int)] := by
    have hlt := (List.getElem?_eq_some_iff.1 h2).1
    rw [List.drop_eq_getElem_cons zb6, List.drop_eq_getElem_cons zb6]
    have g1 := (List.getElem?_eq_some_iff.1 h1).2
    have g2 := (List.getElem?_eq_some_iff.1 h2).2
    rw [g1, g2]
    rfl
  rw [e]
  exact P.k89_mk w (toS q)
/-- Cells of a row of slots that the print tells of. -/
theorem slots_of {w : World} {base : Nat} {ok : Nat → Prop} {v : Value} {d : Dir} (h : P.k89.R 89 w base ok v (d.map toS)) : w.ownsRow base 89 2 v d.length (slotsC d) := by
  obtain ⟨_, inner, ho, hlen, hr⟩ := h
  have hin : inner = slotsC d := by
    have hl : inner.length = d.length * 2 := by rw [hlen, List.length_map]; rfl
    refine List.ext_getElem? (fun i => ?_)
    rcases Nat.lt_or_ge i (d.length * 2) with hi | hi
    · obtain ⟨q, hq⟩ : ∃ q, d[i / 2]? = some q := ⟨_, List.getElem?_eq_getElem zb6⟩
      have h1 := hr (i / 2) (toS q) (by rw [List.getElem?_map, hq]; rfl)
      have h2 := P.k89_openM h1
      obtain ⟨c1, c2⟩ := slotsC_at d (i / 2) q hq
      have hd : ∀ t, t < 2 → inner[i / 2 * 2 + t]? = [Value.string (toS q).f0, Value.int .i64 (toS q).f1][t]? := fun t ht => by
        rw [← h2, List.getElem?_take, if_pos (show t < P.k89.sz from ht), List.getElem?_drop]
        rfl
      rcases Nat.mod_two_eq_zero_or_one i with hm | hm
      · have e : i = i / 2 * 2 + 0 := by omega
        rw [e, hd 0 zb6]
        exact c1.symm
      · have e : i = i / 2 * 2 + 1 := by omega
        rw [e, hd 1 zb6]
        exact c2.symm
    · rw [List.getElem?_eq_none zb6, List.getElem?_eq_none (by rw [slotsC_len]; omega)]
  rw [hin, List.length_map] at ho
  exact ho
theorem row_cap {w : World} {base e size n : Nat} {A : Option Addr} {c : Nat} {xs : List Value} (h : w.ownsRow base e size (.slice A n c) n xs) : n ≤ c := by
  rcases h.2 with ⟨h1, h2⟩ | ⟨g, cap, cur, h1, _, _, h2, _⟩
  · injection h1 with e1 e2 e3
    omega
  · injection h1 with e1 e2 e3
    omega
theorem put_calls {w : World} {v : Value} (d : Dir) (s : ByteArray) (o : Option Nat) (hv : w.ownsRow 0 89 2 v d.length (slotsC d)) (hs : Sorted d) (hn : d.length < 1000000000) :
    Calls Try.prog 50 #[v, .string s, .int .i64 (keyI o)] w fun e w' => ∃ v', e = .returned v' ∧ w'.ownsRow w.heap.size 89 2 v' (put d (s.data.toList, o)).length (slotsC (put d (s.data.toList, o))) ∧ Below w.heap.size w w' := by
  obtain ⟨A, c, rfl, hr⟩ := own_reads_row hv (reps_toS w d) (by rw [List.length_map])
  obtain ⟨K, hK⟩ := put_plain d s o hs hn
  have hlen : (d.map toS).length = d.length := List.length_map _
  have h := P.broadsheetref01_put.calls K A c (d.map toS) s (keyI o) _ w (by rw [hlen]; exact hr) (by rw [hlen]; exact row_cap hv) hK
  rw [hlen] at h
  refine h.mono ?_
  rintro e w' ⟨v', he, hR, hb⟩
  exact ⟨v', he, slots_of hR, hb⟩
def rtopC (fv sv tv : Value) (pw rm : Int) : Obj := .cells #[fv, sv, tv, .int .i64 pw, .int .i64 rm] 60 (0, 0)
/-- The document's plate at block br reads as the machine m. -/
structure RP (w : World) (br : Nat) (m : Mach) (fv sv tv : Value) : Prop where
  top : w.heap[br]? = some (rtopC fv sv tv m.power m.room)
  files : w.ownsRow 0 74 2 fv m.files.length (filsC m.files)
  safe : w.ownsRow 0 89 2 sv m.safe.length (slotsC m.safe)
  steps : w.ownsRow 0 76 2 tv m.steps.length (rstepsC m.steps)
def rfoot (br : Nat) (fv sv tv : Value) (i : Nat) : Prop := i = br ∨ fv.ownBlock = some i ∨ sv.ownBlock = some i ∨ tv.ownBlock = some i
def RPlate (w : World) (br : Nat) (m : Mach) (F : Nat → Prop) : Prop := ∃ fv sv tv, RP w br m fv sv tv ∧ ∀ i, rfoot br fv sv tv i → F i
section
variable {w w' : World} {br : Nat} {m : Mach} {fv sv tv : Value} {F : Nat → Prop}
theorem RP.move (h : RP w br m fv sv tv) (hm : ∀ i, rfoot br fv sv tv i → w'.heap[i]? = w.heap[i]?) : RP w' br m fv sv tv :=
  ⟨(hm _ (.inl rfl)).trans h.top, own_move h.files (fun k hk => hm _ (.inr (.inl hk))), own_move h.safe (fun k hk => hm _ (.inr (.inr (.inl hk)))), own_move h.steps (fun k hk => hm _ (.inr (.inr (.inr hk))))⟩
theorem RP.lt (h : RP w br m fv sv tv) {i : Nat} (hi : rfoot br fv sv tv i) : i < w.heap.size := by
  rcases hi with rfl | hi | hi | hi
  · exact blk_lt h.top
  · obtain ⟨_, e⟩ := row_block h.files hi
    exact blk_lt e
  · obtain ⟨_, e⟩ := row_block h.safe hi
    exact blk_lt e
  · obtain ⟨_, e⟩ := row_block h.steps hi
    exact blk_lt e
theorem RP.tch (h : RP w br m fv sv tv) (ht : Tch (fun _ => False) w w') : RP w' br m fv sv tv := h.move (fun i hi => ht.block i (h.lt hi) id)
theorem RP.below (h : RP w br m fv sv tv) (hb : Below w.heap.size w w') : RP w' br m fv sv tv := h.tch (Tch.of_below hb)
theorem RP.alloc (h : RP w br m fv sv tv) (o : Obj) : RP (w.alloc o) br m fv sv tv := h.tch (Tch.alloc _ w o)
theorem RP.drew (h : RP w br m fv sv tv) : RP w.drew br m fv sv tv := h.move (fun _ _ => rfl)
/-- The plate's own block is none of the rows'; the rows lie apart. -/
theorem RP.br_ne (h : RP w br m fv sv tv) : fv.ownBlock ≠ some br ∧ sv.ownBlock ≠ some br ∧ tv.ownBlock ≠ some br := by
  refine ⟨fun e => ?_, fun e => ?_, fun e => ?_⟩
  · obtain ⟨_, e2⟩ := row_block h.files e
    exact cells_ne h.top e2 zb8 rfl
  · obtain ⟨_, e2⟩ := row_block h.safe e
    exact cells_ne h.top e2 zb8 rfl
  · obtain ⟨_, e2⟩ := row_block h.steps e
    exact cells_ne h.top e2 zb8 rfl
theorem RP.apart (h : RP w br m fv sv tv) {i : Nat} : (fv.ownBlock = some i → sv.ownBlock ≠ some i ∧ tv.ownBlock ≠ some i) ∧ (sv.ownBlock = some i → tv.ownBlock ≠ some i) := by
  refine ⟨fun e => ⟨fun e2 => ?_, fun e2 => ?_⟩, fun e e2 => ?_⟩
  · obtain ⟨_, x⟩ := row_block h.files e
    obtain ⟨_, y⟩ := row_block h.safe e2
    exact cells_ne x y zb8 rfl
  · obtain ⟨_, x⟩ := row_block h.files e
    obtain ⟨_, y⟩ := row_block h.steps e2
    exact cells_ne x y zb8 rfl
  · obtain ⟨_, x⟩ := row_block h.safe e
    obtain ⟨_, y⟩ := row_block h.steps e2
    exact cells_ne x y zb8 rfl
/-- A field is set. -/
theorem RP.power (h : RP w br m fv sv tv) (p : Int) : RP (w.setCell ⟨br, 3, none⟩ (.int .i64 p)) br { m with power := p } fv sv tv := by
  obtain ⟨n1, n2, n3⟩ := h.br_ne
  exact ⟨set_same h.top 3 _, own_move h.files (fun k hk => set_other 3 _ (fun e => n1 (e ▸ hk))), own_move h.safe (fun k hk => set_other 3 _ (fun e => n2 (e ▸ hk))), own_move h.steps (fun k hk => set_other 3 _ (fun e => n3 (e ▸ hk)))⟩
theorem RPlate.move (h : RPlate w br m F) (hm : ∀ i, F i → i < w.heap.size → w'.heap[i]? = w.heap[i]?) : RPlate w' br m F := by
  obtain ⟨fv, sv, tv, hx, hF⟩ := h
  exact ⟨fv, sv, tv, hx.move (fun i hi => hm i (hF i hi) (hx.lt hi)), hF⟩
theorem spendR_no (pp : RP w br m fv sv tv) (hp : m.power = 0) : Calls Try.prog 30 #[.pointer (some ⟨br, 0, none⟩)] w fun e w' => e = .returned (.bool false) ∧ w' = w := by
  have c3 : w.cell? ⟨br, 3, none⟩ = some (.int .i64 0) := by rw [← hp]; exact cell_at pp.top 3
  clear pp
  go_enter Try.func30, Try.ntmps30
  go_wp2
  go_ret
  exact ⟨rfl, rfl⟩
theorem spendR_ok (pp : RP w br m fv sv tv) (hp : m.power ≠ 0) (hp1 : -1 ≤ m.power) (hp2 : m.power ≤ 9223372036854775807) : Calls Try.prog 30 #[.pointer (some ⟨br, 0, none⟩)] w fun e w' => e = .returned (.bool true) ∧ RP w' br { m with power := spend m.power } fv sv tv ∧ Tch (fun i => i = br) w w' := by
  have c3 : w.cell? ⟨br, 3, none⟩ = some (.int .i64 m.power) := cell_at pp.top 3
  have f3 : w.frozen? ⟨br, 3, none⟩ = false := melt_at pp.top 3
  have PP := Lib.hid pp
  clear pp
  by_cases hpos : 0 < m.power
  · have hpos' : m.power > 0 := hpos
    have hsp := Lib.hid (show spend m.power = m.power - 1 by unfold spend; omega)
    go_enter Try.func30, Try.ntmps30
    go_wp2
    go_ret
    refine ⟨rfl, ?_, (Tch.refl _ w).andSet _ (.inl rfl)⟩
    rw [hsp.out]
    exact PP.out.power _
  · have hm1 : m.power = -1 := by omega
    have hsp := Lib.hid (show spend (-1) = m.power by rw [hm1]; decide)
    rw [hm1] at c3
    go_enter Try.func30, Try.ntmps30
    go_wp2
    go_ret
    refine ⟨rfl, ?_, Tch.refl _ w⟩
    rw [hsp.out]
    exact PP.out
theorem row_at0 {w : World} {base e size n i : Nat} {A : Option Addr} {c : Nat} {xs : List Value} (h : w.ownsRow base e size (.slice A n c) n xs) (hn : i < n) : ∃ g, A = some ⟨g, 0, none⟩ := by
  rcases h.2 with ⟨h1, h2⟩ | ⟨g, cap, cur, h1, _⟩
  · injection h1 with e1 e2 e3
    omega
  · injection h1 with e1 e2 e3
    exact ⟨g, e1⟩
set_option maxRecDepth 100000 in
set_option maxHeartbeats 4000000 in
theorem nowR (n : Nat) (pp : RP w br m fv sv tv) (hs : Sorted m.safe) (hn : n ≤ m.steps.length) (hC : m.safe.length + m.steps.length ≤ 100000000) :
    Calls Try.prog 29 #[.pointer (some ⟨br, 0, none⟩), .int .i64 (n : Int)] w fun e w' => ∃ v, e = .returned v ∧ w'.ownsRow 0 89 2 v (after m.safe (m.steps.take n)).length (slotsC (after m.safe (m.steps.take n))) ∧ (v = sv ∨ ∀ k, v.ownBlock = some k → w.heap.size ≤ k) ∧ Below w.heap.size w w' := by
  obtain ⟨A, c, rfl⟩ := row_slice pp.safe
  obtain ⟨T, tc, rfl⟩ := row_slice pp.steps
  have c1 : w.cell? ⟨br, 1, none⟩ = some (.slice A m.safe.length c) := cell_at pp.top 1
  have PP := Lib.hid pp
  clear pp
  go_enter Try.func29, Try.ntmps29
  go_wp2
  go_loopw [5, 6] (fun v5 v6 wr => ∃ (i : Nat), v6 = Value.int .i64 (i : Int) ∧ i ≤ n ∧ wr.ownsRow 0 89 2 v5 (after m.safe (m.steps.take i)).length (slotsC (after m.safe (m.steps.take i))) ∧ (v5 = .slice A m.safe.length c ∨ ∀ k, v5.ownBlock = some k → w.heap.size ≤ k) ∧ Below w.heap.size w wr)
    (fun _ v6 _ => n - (intOf v6).toNat)
  case atStart => exact ⟨0, rfl, Nat.zero_le _, PP.out.safe, .inl rfl, Below.refl _ _⟩
  case round =>
    obtain ⟨i, rfl, hin, hrow, hv, hb⟩ := hrel
    have ppr := PP.out.below hb
    obtain ⟨A5, c5, rfl⟩ := row_slice hrow
    by_cases hlt : i < n
    · have hdec : ((i : Int) < (n : Int)) := by omega
      have hst := ppr.steps
      obtain ⟨g, rfl⟩ := row_at0 hst (show i < m.steps.length by omega)
      obtain ⟨s, hsi⟩ : ∃ s, m.steps[i]? = some s := ⟨_, List.getElem?_eq_getElem zb6⟩
      obtain ⟨sc1, sc2⟩ := rstepsC_at m.steps i s hsi
      have cA := (hst.cellAt (i * 2) zb6).trans sc1
      have cB := (hst.cellAt (i * 2 + 1) zb6).trans sc2
      have d2 : wr.cell? ⟨br, 2, none⟩ = some (.slice (some ⟨g, 0, none⟩) m.steps.length tc) := cell_at ppr.top 2
      have hput : put (after m.safe (m.steps.take i)) s = after m.safe (m.steps.take (i + 1)) := by
        rw [List.take_add_one, hsi, after_append]
        rfl
      have hal := after_len (m.steps.take i) m.safe
      have htl : (m.steps.take i).length ≤ m.steps.length := List.length_take_le' _ _
      have hpc := put_calls (w := wr.drew) (after m.safe (m.steps.take i)) (mkB s.1) s.2 (own_move hrow (fun _ _ => rfl)) (sorted_after _ hs) zb6
      rw [mkB_data, show ((s.1, s.2) : Stp) = s from rfl, hput] at hpc
      have HPC := Lib.hid hpc
      have HB := Lib.hid hb
      have HV := Lib.hid hv
      clear hpc hput hal htl sc1 sc2 hst ppr hrow hb hv hsi
      generalize keyI s.2 = q at *
      go_wp2
      go_region_with (go_at_call 50; refine HPC.out.mono ?_; rintro e w3 ⟨v3, rfl, hown3, hb3⟩)
      all_goals
        go_wp2
        go_roundw
        case rel => exact ⟨i + 1, by push_cast; rfl, by omega, own_weaken hown3 (Nat.zero_le _), .inr (fun k hk => Nat.le_trans HB.out.size (own_base hown3 k hk)), HB.out.drew.trans (hb3.mono HB.out.size)⟩
        case measure =>
          show n - ((i : Int) + 1).toNat < n - (i : Int).toNat
          omega
    · have hdec : ¬ ((i : Int) < (n : Int)) := by omega
      have hin' : i = n := by omega
      subst hin'
      clear ppr
      have HR := Lib.hid hrow
      clear hrow
      go_wp2
      go_ret
      exact ⟨_, rfl, HR.out, hv, hb⟩
end
section
variable {w w' : World} {br : Nat} {m : Mach} {fv sv tv : Value} {F : Nat → Prop} {C : Nat}
/-- now, of all steps. -/
theorem nowR_all (pp : RP w br m fv sv tv) (hi : Inv C m) (hC : C ≤ 100000000) :
    Calls Try.prog 29 #[.pointer (some ⟨br, 0, none⟩), .int .i64 (m.steps.length : Int)] w fun e w' => ∃ v, e = .returned v ∧ w'.ownsRow 0 89 2 v m.now.length (slotsC m.now) ∧ (v = sv ∨ ∀ k, v.ownBlock = some k → w.heap.size ≤ k) ∧ Below w.heap.size w w' := by
  have h := nowR m.steps.length pp hi.sorted (Nat.le_refl _) (Nat.le_trans hi.count hC)
  rw [List.take_length] at h
  exact h
theorem find_none_of {d : Dir} {n : L} (h : ∀ p ∈ d, p.1 ≠ n) : look d n = none := look_none.2 (fun k hk => h _ hk rfl)
theorem look_first {d : Dir} {n : L} {i : Nat} {p : L × Nat} (hp : d[i]? = some p) (he : p.1 = n) (hne : ∀ q ∈ d.take i, q.1 ≠ n) : look d n = some p.2 := by
  unfold look
  have hi := (List.getElem?_eq_some_iff.1 hp).1
  have e : d = d.take i ++ p :: d.drop (i + 1) := by
    have h1 := List.take_append_drop i d
    rw [List.drop_eq_getElem_cons hi] at h1
    rw [(List.getElem?_eq_some_iff.1 hp).2] at h1
    exact h1.symm
  rw [e, List.find?_append, List.find?_eq_none.2 (fun q hq => by simpa using hne q hq), List.find?_cons_of_pos (by simpa using he)]
  rfl
set_option maxRecDepth 100000 in
set_option maxHeartbeats 4000000 in
theorem findR (s : ByteArray) (pp : RP w br m fv sv tv) (hi : Inv C m) (hC : C ≤ 100000000) :
    Calls Try.prog 28 #[.pointer (some ⟨br, 0, none⟩), .string s] w fun e w' => e = .returned (.int .i64 (keyI (m.find s.data.toList))) ∧ Below w.heap.size w w' := by
  obtain ⟨T, tc, rfl⟩ := row_slice pp.steps
  have d2 : w.cell? ⟨br, 2, none⟩ = some (.slice T m.steps.length tc) := cell_at pp.top 2
  have HN := Lib.hid (nowR_all pp hi hC)
  have hnl := hi.now_len
  have HL := Lib.hid hnl
  clear pp hi
  go_enter Try.func28, Try.ntmps28
  go_wp2_with (first
    | (go_at_call 29; refine HN.out.mono ?_; rintro e w1 ⟨v, rfl, hrow, hv, hb⟩; obtain ⟨A, c, rfl⟩ := row_slice hrow; have HR := Lib.hid hrow; have HB := Lib.hid hb; clear hrow hb hv)
    | go_in)
  go_loopw [6] (fun v6 wr => ∃ (i : Nat), v6 = Value.int .i64 (i : Int) ∧ i ≤ m.now.length ∧ Hid (∀ q ∈ m.now.take i, q.1 ≠ s.data.toList) ∧ Hid (wr.heap = w1.heap) ∧ Below w.heap.size w wr)
    (fun v6 _ => m.now.length - (intOf v6).toNat)
  case atStart => exact ⟨0, rfl, Nat.zero_le _, Lib.hid (fun q hq => by simp at hq), Lib.hid rfl, HB.out⟩
  case round =>
    obtain ⟨i, rfl, hil, hno, hh, hbr⟩ := hrel
    by_cases hlt : i < m.now.length
    · have hdec : ((i : Int) < (m.now.length : Int)) := by omega
      have hrow : wr.ownsRow 0 89 2 (.slice A m.now.length c) m.now.length (slotsC m.now) := own_move HR.out (fun k _ => by rw [hh.out])
      obtain ⟨g, rfl⟩ := row_at0 hrow hlt
      obtain ⟨p, hp⟩ : ∃ p, m.now[i]? = some p := ⟨_, List.getElem?_eq_getElem hlt⟩
      obtain ⟨sc1, sc2⟩ := slotsC_at m.now i p hp
      have cA := (hrow.cellAt (i * 2) zb6).trans sc1
      have cB := (hrow.cellAt (i * 2 + 1) zb6).trans sc2
      have HP := Lib.hid hp
      clear hrow sc1 sc2 hp
      by_cases he : p.1 = s.data.toList
      · have hres := Lib.hid (show m.find s.data.toList = some p.2 from look_first HP.out he hno.out)
        have he3 : mkB p.1 = s := by rw [he, mkB_self]
        rw [he3] at cA
        clear he
        go_wp2
        go_ret
        rw [hres.out]
        exact ⟨rfl, hbr⟩
      · have he2 : ((mkB p.1).toList == s.toList) = false := beq_eq_false_iff_ne.2 (by rw [mkB_toList, ByteArray.toList_eq]; exact he)
        go_wp2
        refine ⟨⟨i + 1, by push_cast; rfl, by omega, Lib.hid (fun q hq => ?_), Lib.hid hh.out, hbr⟩, ?_⟩
        · rw [List.take_add_one, HP.out] at hq
          rcases List.mem_append.1 hq with hq | hq
          · exact hno.out q hq
          · have : q = p := by simpa using hq
            rw [this]; exact he
        · show m.now.length - ((i : Int) + 1).toNat < m.now.length - (i : Int).toNat
          omega
    · have hdec : ¬ ((i : Int) < (m.now.length : Int)) := by omega
      have hres := Lib.hid (show m.find s.data.toList = none from find_none_of (fun p hp => hno.out p (by rw [List.take_of_length_le zb6]; exact hp)))
      go_wp2
      go_ret
      rw [hres.out]
      exact ⟨rfl, hbr⟩
theorem used_snoc (fs : List Fil) (d : Dir) (p : L × Nat) : used fs (d ++ [p]) = used fs d + (fileAt fs p.2).all.length := by
  unfold used
  rw [List.foldl_append]
  rfl
theorem fileAt_get {fs : List Fil} {k : Nat} (h : k < fs.length) : fs[k]? = some (fileAt fs k) := by
  unfold fileAt
  rw [List.getD_eq_getElem?_getD, List.getElem?_eq_getElem h]
  rfl
theorem own_below {w w1 : World} {base e size n : Nat} {v : Value} {xs : List Value} (h : w.ownsRow base e size v n xs) (hb : Below w.heap.size w w1) : w1.ownsRow base e size v n xs :=
  own_move h (fun k hk => hb.block k (by obtain ⟨_, e⟩ := row_block h hk; exact blk_lt e))
theorem mkB_append (a b : L) : mkB a ++ mkB b = mkB (a ++ b) := by
  apply ByteArray.ext
  rw [ByteArray.data_append]
  simp [mkB]
set_option maxRecDepth 100000 in
set_option maxHeartbeats 4000000 in
theorem usedR (pp : RP w br m fv sv tv) (hi : Inv C m) (hC : C ≤ 100000000) :
    Calls Try.prog 51 #[.pointer (some ⟨br, 0, none⟩)] w fun e w' => e = .returned (.int .i64 (used m.files m.now : Nat)) ∧ Below w.heap.size w w' := by
  obtain ⟨T, tc, rfl⟩ := row_slice pp.steps
  obtain ⟨A0, fc, rfl⟩ := row_slice pp.files
  have d2 : w.cell? ⟨br, 2, none⟩ = some (.slice T m.steps.length tc) := cell_at pp.top 2
  have HN := Lib.hid (nowR_all pp hi hC)
  have hnl := hi.now_len
  have HI := Lib.hid hi
  have PP := Lib.hid pp
  clear pp hi
  go_enter Try.func51, Try.ntmps51
  go_wp2_with (first
    | (go_at_call 29; refine HN.out.mono ?_; rintro e w1 ⟨v, rfl, hrow, hv, hb⟩; obtain ⟨A, c, rfl⟩ := row_slice hrow; have HR := Lib.hid hrow; have HB := Lib.hid hb; clear hrow hb hv)
    | go_in)
  go_loopw [4, 5, 6] (fun v4 v5 _ wr => ∃ (i : Nat), v4 = Value.int .i64 ((used m.files (m.now.take i) : Nat) : Int) ∧ v5 = Value.int .i64 (i : Int) ∧ i ≤ m.now.length ∧ Below w1.heap.size w1 wr)
    (fun _ v5 _ _ => m.now.length - (intOf v5).toNat)
  case atStart => exact ⟨0, rfl, rfl, Nat.zero_le _, Below.refl _ _⟩
  case round =>
    obtain ⟨i, rfl, rfl, hil, hbr⟩ := hrel
    by_cases hlt : i < m.now.length
    · have hdec : ((i : Int) < (m.now.length : Int)) := by omega
      have hrow := own_below HR.out hbr
      have ppr := (PP.out.below HB.out).below (hbr.mono (Nat.le_refl _))
      obtain ⟨g, rfl⟩ := row_at0 hrow hlt
      obtain ⟨⟨nm, k⟩, hp⟩ : ∃ p, m.now[i]? = some p := ⟨_, List.getElem?_eq_getElem hlt⟩
      have hk : k < m.files.length := HI.out.now_key _ (List.mem_of_getElem? hp)
      have hk' : ((k : Int) < (m.files.length : Int)) := by omega
      have hfr := ppr.files
      obtain ⟨g2, rfl⟩ := row_at0 hfr hk
      obtain ⟨sc1, sc2⟩ := slotsC_at m.now i _ hp
      have cB := (hrow.cellAt (i * 2 + 1) zb6).trans sc2
      obtain ⟨fc1, fc2⟩ := filsC_at m.files k _ (fileAt_get hk)
      have cF := (hfr.cellAt (k * 2) zb6).trans fc1
      have cG := (hfr.cellAt (k * 2 + 1) zb6).trans fc2
      have d0 : wr.cell? ⟨br, 0, none⟩ = some (.slice (some ⟨g2, 0, none⟩) m.files.length fc) := cell_at ppr.top 0
      have hu1 := used_le HI.out (m.now.take i) (fun p hp => HI.out.now_key p (List.mem_of_mem_take hp))
      have hu2 : (m.now.take i).length ≤ m.now.length := List.length_take_le' _ _
      have hsz := HI.out.size _ (fileAt_mem hk)
      have hrm := HI.out.room1
      have hs1 : (mkB (fileAt m.files k).safe).size + (mkB (fileAt m.files k).loose).size = (fileAt m.files k).all.length := by
        rw [mkB_size, mkB_size]
        unfold Fil.all
        rw [List.length_append]
      have hsnoc : used m.files (m.now.take (i + 1)) = used m.files (m.now.take i) + (mkB (fileAt m.files k).safe).size + (mkB (fileAt m.files k).loose).size := by
        rw [List.take_add_one, hp]
        show used m.files (m.now.take i ++ [(nm, k)]) = _
        rw [used_snoc]
        show used m.files (m.now.take i) + (fileAt m.files k).all.length = _
        omega
      have hgl : g < wr.heap.size := by obtain ⟨_, e⟩ := row_block hrow (k := g) rfl; exact blk_lt e
      have hg2l : g2 < wr.heap.size := by obtain ⟨_, e⟩ := row_block hfr (k := g2) rfl; exact blk_lt e
      have hbrl : br < wr.heap.size := blk_lt ppr.top
      generalize hu : used m.files (m.now.take i) = u at *
      generalize mkB (fileAt m.files k).safe = fs at *
      generalize mkB (fileAt m.files k).loose = fl at *
      have hu3 : u ≤ 500000000000000 := by omega
      have hfs : fs.size ≤ 5000000 := by omega
      have hfl : fl.size ≤ 5000000 := by omega
      have HS := Lib.hid hsnoc
      have HBR := Lib.hid hbr
      clear hrow sc1 sc2 hp hfr ppr fc1 fc2 hu1 hu2 hsz hrm hs1 hsnoc hbr
      go_wp2
      go_region
      go_wp2
      go_roundw
      case rel =>
        refine ⟨i + 1, ?_, by push_cast; rfl, by omega, ?_⟩
        · rw [HS.out]
          push_cast
          rfl
        · exact (HBR.out.alloc HBR.out.size _).drew
      case measure =>
        show m.now.length - ((i : Int) + 1).toNat < m.now.length - (i : Int).toNat
        omega
    · have hdec : ¬ ((i : Int) < (m.now.length : Int)) := by omega
      have e : m.now.take i = m.now := List.take_of_length_le zb6
      rw [e]
      clear e
      have HBR := Lib.hid hbr
      clear hbr
      go_wp2
      go_ret
      exact ⟨rfl, HB.out.trans (HBR.out.mono HB.out.size)⟩
set_option maxRecDepth 100000 in
set_option maxHeartbeats 4000000 in
theorem readR (s : ByteArray) (pp : RP w br m fv sv tv) (hi : Inv C m) (hC : C ≤ 100000000) :
    Calls Try.prog 32 #[.pointer (some ⟨br, 0, none⟩), .string s] w fun e w' => e = .returned (.tuple #[.string (mkB (read m s.data.toList).1), .int .i64 (read m s.data.toList).2]) ∧ Below w.heap.size w w' := by
  have HF := Lib.hid (findR s pp hi hC)
  cases hl : m.find s.data.toList with
  | none =>
    have hr : read m s.data.toList = ([], 10) := by unfold read; rw [hl]
    have HR := Lib.hid hr
    rw [hl] at HF
    clear pp hi hr hl
    go_enter Try.func32, Try.ntmps32
    go_wp2_with (first
      | (go_at_call 28; refine HF.out.mono ?_; rintro e w1 ⟨rfl, hb⟩; simp only [keyI])
      | go_in)
    go_ret2
    rw [HR.out]
    exact ⟨rfl, hb⟩
  | some k =>
    have hk : k < m.files.length := hi.now_key _ (look_mem hl)
    have hk' : ((k : Int) < (m.files.length : Int)) := by omega
    have hr : read m s.data.toList = ((fileAt m.files k).all, 0) := by unfold read; rw [hl]
    have hsz := hi.size _ (fileAt_mem hk)
    have hrm := hi.room1
    have hs1 : (mkB (fileAt m.files k).safe).size + (mkB (fileAt m.files k).loose).size = (fileAt m.files k).all.length := by
      rw [mkB_size, mkB_size]
      unfold Fil.all
      rw [List.length_append]
    have hs2 : (mkB (fileAt m.files k).safe).size + (mkB (fileAt m.files k).loose).size ≤ 9223372036854775807 := by omega
    have HR := Lib.hid hr
    have PP := Lib.hid pp
    have happ := Lib.hid (mkB_append (fileAt m.files k).safe (fileAt m.files k).loose)
    rw [hl] at HF
    clear pp hi hr hl hsz hrm hs1
    go_enter Try.func32, Try.ntmps32
    go_wp2_with (first
      | (go_at_call 28; refine HF.out.mono ?_; rintro e w1 ⟨rfl, hb⟩; simp only [keyI]; have ppr := PP.out.below hb; obtain ⟨A0, fc, rfl⟩ := row_slice ppr.files; have d0 : w1.cell? ⟨br, 0, none⟩ = some (.slice A0 m.files.length fc) := cell_at ppr.top 0; obtain ⟨g2, rfl⟩ := row_at0 ppr.files hk; obtain ⟨fc1, fc2⟩ := filsC_at m.files k _ (fileAt_get hk); have cF := (ppr.files.cellAt (k * 2) zb6).trans fc1; have cG := (ppr.files.cellAt (k * 2 + 1) zb6).trans fc2; clear ppr fc1 fc2)
      | go_in)
    go_region
    go_wp2
    go_ret2
    rw [HR.out]
    refine ⟨?_, hb.drew⟩
    rw [happ.out]
    rfl
end
section
variable {w w' : World} {br : Nat} {m : Mach} {fv sv tv : Value} {F : Nat → Prop} {C : Nat}
theorem str_info : (Try.prog.info? 9).map (fun i => (i.zero, i.size, i.bytes)) = some (some (.string ⟨#[]⟩), 1, 16) := by kernel_rfl
theorem one_new (w : World) (t : TypeId) (u : Value) : ∀ j v, [u][j]? = some v → (w.alloc (.cells #[u] t)).cell? ((⟨w.heap.size, 0, none⟩ : Addr).add j) = some v := by
  intro j v hj
  have hj0 : j = 0 := by
    have := (List.getElem?_eq_some_iff.1 hj).1
    simp at this
    exact this
  subst hj0
  have e : u = v := by simpa using hj
  rw [← e]
  exact cell_at (alloc_new w _) 0
set_option maxRecDepth 100000 in
set_option maxHeartbeats 4000000 in
theorem listR (pp : RP w br m fv sv tv) (hi : Inv C m) (hC : C ≤ 100000000) :
    Calls Try.prog 31 #[.pointer (some ⟨br, 0, none⟩)] w fun e w' => ∃ v, e = .returned v ∧ w'.ownsRow w.heap.size 9 1 v m.now.length ((list m).map fun n => Value.string (mkB n)) ∧ Below w.heap.size w w' := by
  obtain ⟨i0, hi0, hz⟩ := Option.map_eq_some_iff.1 str_info
  simp only [Prod.mk.injEq] at hz
  obtain ⟨hz0, hz1, hz2⟩ := hz
  obtain ⟨T, tc, rfl⟩ := row_slice pp.steps
  have d2 : w.cell? ⟨br, 2, none⟩ = some (.slice T m.steps.length tc) := cell_at pp.top 2
  have HN := Lib.hid (nowR_all pp hi hC)
  have hnl := hi.now_len
  clear pp hi
  go_enter Try.func31, Try.ntmps31
  go_wp2_with (first
    | (go_at_call 29; refine HN.out.mono ?_; rintro e w1 ⟨v, rfl, hrow, hv, hb⟩; obtain ⟨A, c, rfl⟩ := row_slice hrow; have HR := Lib.hid hrow; have HB := Lib.hid hb; clear hrow hb hv)
    | go_in)
  go_loopw [4, 5] (fun v4 v5 wr => ∃ (i : Nat), v5 = Value.int .i64 (i : Int) ∧ i ≤ m.now.length ∧ wr.ownsRow w1.heap.size 9 1 v4 (m.now.take i).length ((m.now.take i).map fun p => Value.string (mkB p.1)) ∧ Below w1.heap.size w1 wr)
    (fun _ v5 _ => m.now.length - (intOf v5).toNat)
  case atStart => exact ⟨0, rfl, Nat.zero_le _, World.ownsRow_nil _ _ _ _, Below.refl _ _⟩
  case round =>
    obtain ⟨i, rfl, hil, hout, hbr⟩ := hrel
    by_cases hlt : i < m.now.length
    · have hdec : ((i : Int) < (m.now.length : Int)) := by omega
      have hrow := own_below HR.out hbr
      obtain ⟨g, rfl⟩ := row_at0 hrow hlt
      obtain ⟨⟨nm, k⟩, hp⟩ : ∃ p, m.now[i]? = some p := ⟨_, List.getElem?_eq_getElem hlt⟩
      obtain ⟨sc1, sc2⟩ := slotsC_at m.now i _ hp
      have cA : wr.cell? ⟨g, i * 2, none⟩ = some (.string (mkB nm)) := (hrow.cellAt (i * 2) zb6).trans sc1
      have htl : (m.now.take i).length = i := by rw [List.length_take]; omega
      have hsnoc : m.now.take (i + 1) = m.now.take i ++ [(nm, k)] := by rw [List.take_add_one, hp]; rfl
      rw [htl] at hout
      obtain ⟨A4, c4, rfl⟩ := row_slice hout
      have HO := Lib.hid hout
      have HS := Lib.hid hsnoc
      have HBR := Lib.hid hbr
      clear hrow sc1 sc2 hp hout hsnoc hbr
      go_wp2_with (first
        | (at_builtin; refine wpList_append_own_at _ rfl _ _ 48 rfl w1.heap.size 9 i0 _ 1 16 Try.underlying48 hi0 hz0 hz1 hz2 rfl zb8 _ i _ rfl (HO.out.alloc _) ⟨wr.heap.size, 0, none⟩ 1 1 [.string (mkB nm)] rfl (by simp) (one_new _ _ _) (by simp [Value.oneCell']) (by unfold maxLen; omega) zb6 (by have := HBR.out.size; simp; omega) ?_; intro v2 w2 hown2 hgr2 hnil2 hloc2; obtain ⟨A2, cc2, rfl⟩ := row_slice hown2; have HO2 := Lib.hid hown2; have HG2 := Lib.hid hgr2; clear hown2 hgr2 hnil2 hloc2)
        | go_in)
      go_roundw
      case rel =>
        refine ⟨i + 1, by push_cast; rfl, by omega, ?_, ?_⟩
        · rw [HS.out, List.length_append, htl, List.map_append]
          exact HO2.out
        · exact (HBR.out.alloc HBR.out.size _).grown HG2.out (by have := HBR.out.size; simp; omega) (fun k hk => own_base HO.out k hk)
      case measure =>
        show m.now.length - ((i : Int) + 1).toNat < m.now.length - (i : Int).toNat
        omega
    · have hdec : ¬ ((i : Int) < (m.now.length : Int)) := by omega
      have e : m.now.take i = m.now := List.take_of_length_le zb6
      rw [e] at hout
      clear e
      have HO := Lib.hid hout
      have HBR := Lib.hid hbr
      clear hbr hout
      go_wp2
      go_ret
      refine ⟨_, rfl, ?_, HB.out.trans (HBR.out.mono HB.out.size)⟩
      have e : ((list m).map fun n => Value.string (mkB n)) = m.now.map fun p => Value.string (mkB p.1) := by
        unfold list
        rw [List.map_map]
        rfl
      rw [e]
      exact own_weaken HO.out HB.out.size
end
end Go.Proofs.Ytblmjnknagpacaa.Pl
/- Px13 -/
namespace Go.Proofs.Ytblmjnknagpacaa.P
open Go.Proofs.Ytblmjnknagpacaa.B
open Go.RowKit Go.Proofs.YtblmjnknagpacaaW.PrintWords Go.Proofs.YtblmjnknagpacaaW.PrintLast Go.Proofs.YtblmjnknagpacaaW.PrintMore
attribute [local go_sem] run_store_float str_leq str_gtr str_geq max2_int min2_int max_two min_two max_three min_three max_four min_four
set_option linter.unusedVariables false
set_option linter.unusedSimpArgs false
mutual
def broadsheetref01_Name.j0 : Nat → ByteArray → Bool → Option (Bool)
  | 0, _, _ => none
  | k + 1, x0, x11 => if x11 = true then (some false) else (broadsheetref01_Name.l0 k x0 0)
def broadsheetref01_Name.l0 : Nat → ByteArray → Int → Option (Bool)
  | 0, _, _ => none
  | k + 1, x0, x3 => if x3 < (x0.size : Int) then (if 0 ≤ x3 then (if (bt x0 x3) ≥ 48 then (if (bt x0 x3) ≤ 57 then (broadsheetref01_Name.l0 k x0 (wrap64 (x3 + 1))) else (if (bt x0 x3) ≥ 97 then (if (bt x0 x3) ≤ 122 then (broadsheetref01_Name.l0 k x0 (wrap64 (x3 + 1))) else (if (bt x0 x3) = 46 then (broadsheetref01_Name.l0 k x0 (wrap64 (x3 + 1))) else (if ((bt x0 x3) = 45) then (broadsheetref01_Name.l0 k x0 (wrap64 (x3 + 1))) else (some false)))) else (if (bt x0 x3) = 46 then (broadsheetref01_Name.l0 k x0 (wrap64 (x3 + 1))) else (if ((bt x0 x3) = 45) then (broadsheetref01_Name.l0 k x0 (wrap64 (x3 + 1))) else (some false))))) else (if (bt x0 x3) ≥ 97 then (if (bt x0 x3) ≤ 122 then (broadsheetref01_Name.l0 k x0 (wrap64 (x3 + 1))) else (if (bt x0 x3) = 46 then (broadsheetref01_Name.l0 k x0 (wrap64 (x3 + 1))) else (if ((bt x0 x3) = 45) then (broadsheetref01_Name.l0 k x0 (wrap64 (x3 + 1))) else (some false)))) else (if (bt x0 x3) = 46 then (broadsheetref01_Name.l0 k x0 (wrap64 (x3 + 1))) else (if ((bt x0 x3) = 45) then (broadsheetref01_Name.l0 k x0 (wrap64 (x3 + 1))) else (some false))))) else (none)) else (some true)
end
def broadsheetref01_Name.f (k : Nat) (a0 : ByteArray) : Option (Bool) := if a0.toList = ([] : List UInt8) then (broadsheetref01_Name.j0 k a0 true) else (broadsheetref01_Name.j0 k a0 (decide ((a0.size : Int) > 32)))
set_option maxHeartbeats 8000000 in
set_option maxRecDepth 100000 in
theorem broadsheetref01_Name.calls (k : Nat) (a0 : ByteArray) (r : Bool) (w : World) (h : broadsheetref01_Name.f k a0 = some r) :
  Calls Try.prog 27 #[.string a0] w fun e w' => e = .returned (.bool r) ∧ Drawn0 w w' := by
 have H : (if a0.toList = ([] : List UInt8) then (broadsheetref01_Name.j0 k a0 true) else (broadsheetref01_Name.j0 k a0 (decide ((a0.size : Int) > 32)))) = some r := h
 clear h
 have HC2 := Aside0.mk H
 clear H
 go_enter Try.func27, Try.ntmps27
 go_upto_region 1 with (fail)
 go_cut [11] (fun v11 wc => ∃ (kq : Nat) (x11_1 : Bool), v11 = .bool x11_1 ∧ Aside0 (broadsheetref01_Name.j0 kq a0 x11_1 = some r) ∧ Aside0 (kq ≤ k) ∧ Drawn0 w wc)
 case first =>
  have H := HC2.out
  clear HC2
  by_cases c3 : a0.toList = ([] : List UInt8)
  ·rw [if_pos c3] at H
   have c3b0 : (a0.toList == ([] : List UInt8)) = true := beq_iff_eq.mpr c3
   have c3b1 : (a0.toList != ([] : List UInt8)) = false := bne_eq_false_iff_eq.mpr c3
   clear c3
   (first | rw [c3b0] | (simp only [i64_w, i32_w]; rw [c3b0]) | skip)
   have H' := Aside0.mk H
   clear H
   go_wp2
   go_meet
   case rel => exact ⟨_, (true), zb5, H', ⟨by first | omega | exact Nat.le_refl _⟩, by repeat (first | exact Drawn0.refl _ | apply Drawn0.step)⟩
  ·rw [if_neg c3] at H
   have c3b0 : (a0.toList == ([] : List UInt8)) = false := beq_eq_false_iff_ne.mpr c3
   have c3b1 : (a0.toList != ([] : List UInt8)) = true := bne_iff_ne.mpr c3
   (first | rw [c3b0] | (simp only [i64_w, i32_w]; rw [c3b0]) | skip)
   have H' := Aside0.mk H
   clear H
   go_wp2
   go_meet
   case rel => exact ⟨_, (decide ((a0.size : Int) > 32)), zb5, H', ⟨by first | omega | exact Nat.le_refl _⟩, by repeat (first | exact Drawn0.refl _ | apply Drawn0.step)⟩
 case rest =>
  clear HC2
  try clear c2
  try clear p2
  try clear c3
  try clear c3b0
  try clear c3b1
  obtain ⟨kq, x11_1, rfl, HA, HJ1, ⟨mc1, rfl⟩⟩ := hcut
  cases kq with
  | zero => exact absurd HA.out (by simp [broadsheetref01_Name.j0])
  | succ kj1 =>
   have H := HA.out
   clear HA
   simp only [broadsheetref01_Name.j0] at H
   by_cases c4 : x11_1 = true
   ·subst c4
    replace H : (some false) = some r := by rw [if_pos rfl] at H; exact H
    obtain rfl := Option.some.inj H
    go_wp2
    go_ret
    exact ⟨by first | rfl | (simp; done) | (simp [*]; done), by repeat (first | exact Drawn0.refl _ | apply Drawn0.step)⟩
   ·replace c4 := Bool.eq_false_iff.mpr c4
    subst c4
    replace H : (broadsheetref01_Name.l0 kj1 a0 0) = some r := by rw [if_neg (show ¬ (false = true) by decide)] at H; exact H
    have H' := Aside0.mk H
    clear H
    go_wp2
    first | go_loopg [3] kj1 (fun kq v3 w' => ∃ (x3_2 : Int), v3 = .int .i64 x3_2 ∧ Aside0 (broadsheetref01_Name.l0 kq a0 x3_2 = some r) ∧ Aside0 (kq ≤ kj1) ∧ Drawn0 w w') | (go_simp; go_loopg [3] kj1 (fun kq v3 w' => ∃ (x3_2 : Int), v3 = .int .i64 x3_2 ∧ Aside0 (broadsheetref01_Name.l0 kq a0 x3_2 = some r) ∧ Aside0 (kq ≤ kj1) ∧ Drawn0 w w'))
    case atStart => exact ⟨(0), zb5, H', ⟨Nat.le_refl _⟩, by repeat (first | exact Drawn0.refl _ | apply Drawn0.step)⟩
    case round =>
     clear H'
     try clear c1
     try clear c2
     try clear p2
     try clear c3
     try clear c3b0
     try clear c3b1
     try clear c4
     try clear p2
     obtain ⟨x3_2, rfl, HA, HK2, ⟨m2, rfl⟩⟩ := hrel
     cases gk with
     | zero => exact absurd HA.out (by simp [broadsheetref01_Name.l0])
     | succ k2 =>
      have H := HA.out
      clear HA
      simp only [broadsheetref01_Name.l0] at H
      by_cases c5 : x3_2 < (a0.size : Int)
      ·rw [if_pos c5] at H
       have c5b0 : decide (x3_2 < (a0.size : Int)) = true := decide_eq_true c5
       clear c5
       by_cases c6 : 0 ≤ x3_2
       ·rw [if_pos c6] at H
        have c6b0 : decide (0 ≤ x3_2) = true := decide_eq_true c6
        clear c6
        by_cases c8 : (bt a0 x3_2) ≥ 48
        ·rw [if_pos c8] at H
         have c8b0 : decide (48 ≤ (bt a0 x3_2)) = true := decide_eq_true c8
         clear c8
         by_cases c9 : (bt a0 x3_2) ≤ 57
         ·rw [if_pos c9] at H
          have c9b0 : decide ((bt a0 x3_2) ≤ 57) = true := decide_eq_true c9
          clear c9
          have H' := Aside0.mk H
          clear H
          have p7 : 0 ≤ (x3_2 : Int) := of_decide_eq_true zb1
          have q7 : x3_2 < (a0.size : Int) := of_decide_eq_true zb1
          have hx7 := bt_at a0 x3_2
          replace p7 := eq_true p7
          replace q7 := eq_true q7
          go_wp2
          go_roundg k2
          case measure => have := HJ1.out; have := HK2.out; omega
          case rel => exact ⟨(wrap64 (x3_2 + 1)), zb5, H', ⟨by have := HJ1.out; have := HK2.out; omega⟩, by repeat (first | exact Drawn0.refl _ | apply Drawn0.step)⟩
         ·rw [if_neg c9] at H
          have c9b0 : decide ((bt a0 x3_2) ≤ 57) = false := decide_eq_false c9
          clear c9
          by_cases c10 : (bt a0 x3_2) ≥ 97
          ·rw [if_pos c10] at H
           have c10b0 : decide (97 ≤ (bt a0 x3_2)) = true := decide_eq_true c10
           clear c10
           by_cases c11 : (bt a0 x3_2) ≤ 122
           ·rw [if_pos c11] at H
            have c11b0 : decide ((bt a0 x3_2) ≤ 122) = true := decide_eq_true c11
            clear c11
            have H' := Aside0.mk H
            clear H
            have p7 : 0 ≤ (x3_2 : Int) := of_decide_eq_true zb1
            have q7 : x3_2 < (a0.size : Int) := of_decide_eq_true zb1
            have hx7 := bt_at a0 x3_2
            replace p7 := eq_true p7
            replace q7 := eq_true q7
            go_wp2
            go_roundg k2
            case measure => have := HJ1.out; have := HK2.out; omega
            case rel => exact ⟨(wrap64 (x3_2 + 1)), zb5, H', ⟨by have := HJ1.out; have := HK2.out; omega⟩, by repeat (first | exact Drawn0.refl _ | apply Drawn0.step)⟩
           ·rw [if_neg c11] at H
            have c11b0 : decide ((bt a0 x3_2) ≤ 122) = false := decide_eq_false c11
            clear c11
            by_cases c12 : (bt a0 x3_2) = 46
            ·rw [if_pos c12] at H
             have c12b0 : ((bt a0 x3_2) == 46) = true := beq_iff_eq.mpr c12
             have c12b1 : ((bt a0 x3_2) != 46) = false := bne_eq_false_iff_eq.mpr c12
             clear c12
             have H' := Aside0.mk H
             clear H
             have p7 : 0 ≤ (x3_2 : Int) := of_decide_eq_true zb1
             have q7 : x3_2 < (a0.size : Int) := of_decide_eq_true zb1
             have hx7 := bt_at a0 x3_2
             replace p7 := eq_true p7
             replace q7 := eq_true q7
             go_wp2
             go_roundg k2
             case measure => have := HJ1.out; have := HK2.out; omega
             case rel => exact ⟨(wrap64 (x3_2 + 1)), zb5, H', ⟨by have := HJ1.out; have := HK2.out; omega⟩, by repeat (first | exact Drawn0.refl _ | apply Drawn0.step)⟩
            ·rw [if_neg c12] at H
             have c12b0 : ((bt a0 x3_2) == 46) = false := beq_eq_false_iff_ne.mpr c12
             have c12b1 : ((bt a0 x3_2) != 46) = true := bne_iff_ne.mpr c12
             by_cases c13 : ((bt a0 x3_2) = 45)
             ·rw [if_pos c13] at H
              have c13b0 : ((bt a0 x3_2) == 45) = true := beq_iff_eq.mpr c13
              have c13b1 : ((bt a0 x3_2) != 45) = false := bne_eq_false_iff_eq.mpr c13
              clear c13
              have H' := Aside0.mk H
              clear H
              have p7 : 0 ≤ (x3_2 : Int) := of_decide_eq_true zb1
              have q7 : x3_2 < (a0.size : Int) := of_decide_eq_true zb1
              have hx7 := bt_at a0 x3_2
              replace p7 := eq_true p7
              replace q7 := eq_true q7
              go_wp2
              go_roundg k2
              case measure => have := HJ1.out; have := HK2.out; omega
              case rel => exact ⟨(wrap64 (x3_2 + 1)), zb5, H', ⟨by have := HJ1.out; have := HK2.out; omega⟩, by repeat (first | exact Drawn0.refl _ | apply Drawn0.step)⟩
             ·rw [if_neg c13] at H
              have c13b0 : ((bt a0 x3_2) == 45) = false := beq_eq_false_iff_ne.mpr c13
              have c13b1 : ((bt a0 x3_2) != 45) = true := bne_iff_ne.mpr c13
              obtain rfl := Option.some.inj H
              have p7 : 0 ≤ (x3_2 : Int) := of_decide_eq_true zb1
              have q7 : x3_2 < (a0.size : Int) := of_decide_eq_true zb1
              have hx7 := bt_at a0 x3_2
              replace p7 := eq_true p7
              replace q7 := eq_true q7
              go_wp2
              go_ret
              exact ⟨by first | rfl | (simp; done) | (simp [*]; done), by repeat (first | exact Drawn0.refl _ | apply Drawn0.step)⟩
          ·rw [if_neg c10] at H
           have c10b0 : decide (97 ≤ (bt a0 x3_2)) = false := decide_eq_false c10
           clear c10
           by_cases c14 : (bt a0 x3_2) = 46
           ·rw [if_pos c14] at H
            have c14b0 : ((bt a0 x3_2) == 46) = true := beq_iff_eq.mpr c14
            have c14b1 : ((bt a0 x3_2) != 46) = false := bne_eq_false_iff_eq.mpr c14
            clear c14
            have H' := Aside0.mk H
            clear H
            have p7 : 0 ≤ (x3_2 : Int) := of_decide_eq_true zb1
            have q7 : x3_2 < (a0.size : Int) := of_decide_eq_true zb1
            have hx7 := bt_at a0 x3_2
            replace p7 := eq_true p7
            replace q7 := eq_true q7
            go_wp2
            go_roundg k2
            case measure => have := HJ1.out; have := HK2.out; omega
            case rel => exact ⟨(wrap64 (x3_2 + 1)), zb5, H', ⟨by have := HJ1.out; have := HK2.out; omega⟩, by repeat (first | exact Drawn0.refl _ | apply Drawn0.step)⟩
           ·rw [if_neg c14] at H
            have c14b0 : ((bt a0 x3_2) == 46) = false := beq_eq_false_iff_ne.mpr c14
            have c14b1 : ((bt a0 x3_2) != 46) = true := bne_iff_ne.mpr c14
            by_cases c15 : ((bt a0 x3_2) = 45)
            ·rw [if_pos c15] at H
             have c15b0 : ((bt a0 x3_2) == 45) = true := beq_iff_eq.mpr c15
             have c15b1 : ((bt a0 x3_2) != 45) = false := bne_eq_false_iff_eq.mpr c15
             clear c15
             have H' := Aside0.mk H
             clear H
             have p7 : 0 ≤ (x3_2 : Int) := of_decide_eq_true zb1
             have q7 : x3_2 < (a0.size : Int) := of_decide_eq_true zb1
             have hx7 := bt_at a0 x3_2
             replace p7 := eq_true p7
             replace q7 := eq_true q7
             go_wp2
             go_roundg k2
             case measure => have := HJ1.out; have := HK2.out; omega
             case rel => exact ⟨(wrap64 (x3_2 + 1)), zb5, H', ⟨by have := HJ1.out; have := HK2.out; omega⟩, by repeat (first | exact Drawn0.refl _ | apply Drawn0.step)⟩
            ·rw [if_neg c15] at H
             have c15b0 : ((bt a0 x3_2) == 45) = false := beq_eq_false_iff_ne.mpr c15
             have c15b1 : ((bt a0 x3_2) != 45) = true := bne_iff_ne.mpr c15
             obtain rfl := Option.some.inj H
             have p7 : 0 ≤ (x3_2 : Int) := of_decide_eq_true zb1
             have q7 : x3_2 < (a0.size : Int) := of_decide_eq_true zb1
             have hx7 := bt_at a0 x3_2
             replace p7 := eq_true p7
             replace q7 := eq_true q7
             go_wp2
             go_ret
             exact ⟨by first | rfl | (simp; done) | (simp [*]; done), by repeat (first | exact Drawn0.refl _ | apply Drawn0.step)⟩
        ·rw [if_neg c8] at H
         have c8b0 : decide (48 ≤ (bt a0 x3_2)) = false := decide_eq_false c8
         clear c8
         by_cases c16 : (bt a0 x3_2) ≥ 97
         ·rw [if_pos c16] at H
          have c16b0 : decide (97 ≤ (bt a0 x3_2)) = true := decide_eq_true c16
          clear c16
          by_cases c17 : (bt a0 x3_2) ≤ 122
          ·rw [if_pos c17] at H
           have c17b0 : decide ((bt a0 x3_2) ≤ 122) = true := decide_eq_true c17
           clear c17
           have H' := Aside0.mk H
           clear H
           have p7 : 0 ≤ (x3_2 : Int) := of_decide_eq_true zb1
           have q7 : x3_2 < (a0.size : Int) := of_decide_eq_true zb1
           have hx7 := bt_at a0 x3_2
           replace p7 := eq_true p7
           replace q7 := eq_true q7
           go_wp2
           go_roundg k2
           case measure => have := HJ1.out; have := HK2.out; omega
           case rel => exact ⟨(wrap64 (x3_2 + 1)), zb5, H', ⟨by have := HJ1.out; have := HK2.out; omega⟩, by repeat (first | exact Drawn0.refl _ | apply Drawn0.step)⟩
          ·rw [if_neg c17] at H
           have c17b0 : decide ((bt a0 x3_2) ≤ 122) = false := decide_eq_false c17
           clear c17
           by_cases c18 : (bt a0 x3_2) = 46
           ·rw [if_pos c18] at H
            have c18b0 : ((bt a0 x3_2) == 46) = true := beq_iff_eq.mpr c18
            have c18b1 : ((bt a0 x3_2) != 46) = false := bne_eq_false_iff_eq.mpr c18
            clear c18
            have H' := Aside0.mk H
            clear H
            have p7 : 0 ≤ (x3_2 : Int) := of_decide_eq_true zb1
            have q7 : x3_2 < (a0.size : Int) := of_decide_eq_true zb1
            have hx7 := bt_at a0 x3_2
            replace p7 := eq_true p7
            replace q7 := eq_true q7
            go_wp2
            go_roundg k2
            case measure => have := HJ1.out; have := HK2.out; omega
            case rel => exact ⟨(wrap64 (x3_2 + 1)), zb5, H', ⟨by have := HJ1.out; have := HK2.out; omega⟩, by repeat (first | exact Drawn0.refl _ | apply Drawn0.step)⟩
           ·rw [if_neg c18] at H
            have c18b0 : ((bt a0 x3_2) == 46) = false := beq_eq_false_iff_ne.mpr c18
            have c18b1 : ((bt a0 x3_2) != 46) = true := bne_iff_ne.mpr c18
            by_cases c19 : ((bt a0 x3_2) = 45)
            ·rw [if_pos c19] at H
             have c19b0 : ((bt a0 x3_2) == 45) = true := beq_iff_eq.mpr c19
             have c19b1 : ((bt a0 x3_2) != 45) = false := bne_eq_false_iff_eq.mpr c19
             clear c19
             have H' := Aside0.mk H
             clear H
             have p7 : 0 ≤ (x3_2 : Int) := of_decide_eq_true zb1
             have q7 : x3_2 < (a0.size : Int) := of_decide_eq_true zb1
             have hx7 := bt_at a0 x3_2
             replace p7 := eq_true p7
             replace q7 := eq_true q7
             go_wp2
             go_roundg k2
             case measure => have := HJ1.out; have := HK2.out; omega
             case rel => exact ⟨(wrap64 (x3_2 + 1)), zb5, H', ⟨by have := HJ1.out; have := HK2.out; omega⟩, by repeat (first | exact Drawn0.refl _ | apply Drawn0.step)⟩
            ·rw [if_neg c19] at H
             have c19b0 : ((bt a0 x3_2) == 45) = false := beq_eq_false_iff_ne.mpr c19
             have c19b1 : ((bt a0 x3_2) != 45) = true := bne_iff_ne.mpr c19
             obtain rfl := Option.some.inj H
             have p7 : 0 ≤ (x3_2 : Int) := of_decide_eq_true zb1
             have q7 : x3_2 < (a0.size : Int) := of_decide_eq_true zb1
             have hx7 := bt_at a0 x3_2
             replace p7 := eq_true p7
             replace q7 := eq_true q7
             go_wp2
             go_ret
             exact ⟨by first | rfl | (simp; done) | (simp [*]; done), by repeat (first | exact Drawn0.refl _ | apply Drawn0.step)⟩
         ·rw [if_neg c16] at H
          have c16b0 : decide (97 ≤ (bt a0 x3_2)) = false := decide_eq_false c16
          clear c16
          by_cases c20 : (bt a0 x3_2) = 46
          ·rw [if_pos c20] at H
           have c20b0 : ((bt a0 x3_2) == 46) = true := beq_iff_eq.mpr c20
           have c20b1 : ((bt a0 x3_2) != 46) = false := bne_eq_false_iff_eq.mpr c20
           clear c20
           have H' := Aside0.mk H
           clear H
           have p7 : 0 ≤ (x3_2 : Int) := of_decide_eq_true zb1
           have q7 : x3_2 < (a0.size : Int) := of_decide_eq_true zb1
           have hx7 := bt_at a0 x3_2
           replace p7 := eq_true p7
           replace q7 := eq_true q7
           go_wp2
           go_roundg k2
           case measure => have := HJ1.out; have := HK2.out; omega
           case rel => exact ⟨(wrap64 (x3_2 + 1)), zb5, H', ⟨by have := HJ1.out; have := HK2.out; omega⟩, by repeat (first | exact Drawn0.refl _ | apply Drawn0.step)⟩
          ·rw [if_neg c20] at H
           have c20b0 : ((bt a0 x3_2) == 46) = false := beq_eq_false_iff_ne.mpr c20
           have c20b1 : ((bt a0 x3_2) != 46) = true := bne_iff_ne.mpr c20
           by_cases c21 : ((bt a0 x3_2) = 45)
           ·rw [if_pos c21] at H
            have c21b0 : ((bt a0 x3_2) == 45) = true := beq_iff_eq.mpr c21
            have c21b1 : ((bt a0 x3_2) != 45) = false := bne_eq_false_iff_eq.mpr c21
            clear c21
            have H' := Aside0.mk H
            clear H
            have p7 : 0 ≤ (x3_2 : Int) := of_decide_eq_true zb1
            have q7 : x3_2 < (a0.size : Int) := of_decide_eq_true zb1
            have hx7 := bt_at a0 x3_2
            replace p7 := eq_true p7
            replace q7 := eq_true q7
            go_wp2
            go_roundg k2
            case measure => have := HJ1.out; have := HK2.out; omega
            case rel => exact ⟨(wrap64 (x3_2 + 1)), zb5, H', ⟨by have := HJ1.out; have := HK2.out; omega⟩, by repeat (first | exact Drawn0.refl _ | apply Drawn0.step)⟩
           ·rw [if_neg c21] at H
            have c21b0 : ((bt a0 x3_2) == 45) = false := beq_eq_false_iff_ne.mpr c21
            have c21b1 : ((bt a0 x3_2) != 45) = true := bne_iff_ne.mpr c21
            obtain rfl := Option.some.inj H
            have p7 : 0 ≤ (x3_2 : Int) := of_decide_eq_true zb1
            have q7 : x3_2 < (a0.size : Int) := of_decide_eq_true zb1
            have hx7 := bt_at a0 x3_2
            replace p7 := eq_true p7
            replace q7 := eq_true q7
            go_wp2
            go_ret
            exact ⟨by first | rfl | (simp; done) | (simp [*]; done), by repeat (first | exact Drawn0.refl _ | apply Drawn0.step)⟩
       ·rw [if_neg c6] at H
        exact absurd H (by simp)
      ·rw [if_neg c5] at H
       have c5b0 : decide (x3_2 < (a0.size : Int)) = false := decide_eq_false c5
       clear c5
       obtain rfl := Option.some.inj H
       go_wp2
       go_ret
       exact ⟨by first | rfl | (simp; done) | (simp [*]; done), by repeat (first | exact Drawn0.refl _ | apply Drawn0.step)⟩
end Go.Proofs.Ytblmjnknagpacaa.P
/- PlRe -/
namespace Go.Proofs.Ytblmjnknagpacaa.Pl
open Go Go.RowKit Go.Maps Go.Proofs.YtblmjnknagpacaaW.PrintWords
set_option linter.unusedVariables false
set_option linter.unusedSimpArgs false
/-- Behind a call: the document's plate reads as m'; only its own blocks have turned; it lies in them and in new ones. -/
def RRes (w w' : World) (br : Nat) (m' : Mach) (fv sv tv : Value) : Prop := ∃ fv' sv' tv', RP w' br m' fv' sv' tv' ∧ Tch (rfoot br fv sv tv) w w' ∧ ∀ i, rfoot br fv' sv' tv' i → rfoot br fv sv tv i ∨ w.heap.size ≤ i
def RDone (br : Nat) (F : Nat → Prop) (w : World) (r : Int × Mach) (e : Ending) (w' : World) : Prop := e = .returned (.int .i64 r.1) ∧ RPlate w' br r.2 (grow F w w') ∧ Tch F w w'
theorem blk_ne {v : Value} {k b : Nat} (h : v.ownBlock ≠ some b) (hk : v.ownBlock = some k) : k ≠ b := fun e => h (e ▸ hk)
section
variable {w w' w1 : World} {br : Nat} {m m' : Mach} {fv sv tv : Value} {F : Nat → Prop} {C : Nat} {r : Int × Mach} {n : Int}
theorem RRes.plate (h : RRes w w' br m' fv sv tv) (hF : ∀ i, rfoot br fv sv tv i → F i) : RPlate w' br m' (grow F w w') ∧ Tch F w w' := by
  obtain ⟨a, b, c, pp, ht, hf⟩ := h
  refine ⟨⟨a, b, c, pp, fun i hi => ?_⟩, ht.mono (fun k hk _ => hF k hk)⟩
  rcases hf i hi with h1 | h1
  · exact .inl (hF i h1)
  · exact .inr ⟨h1, pp.lt hi⟩
theorem RRes.same (h : RP w br m fv sv tv) (hb : Below w.heap.size w w') : RRes w w' br m fv sv tv := ⟨fv, sv, tv, h.below hb, (Tch.of_below hb), fun _ h => .inl h⟩
theorem RRes.ahead (h : RRes w1 w' br m' fv sv tv) (hb : Below w.heap.size w w1) : RRes w w' br m' fv sv tv := by
  obtain ⟨a, b, c, pp, ht', hf⟩ := h
  exact ⟨a, b, c, pp, (Tch.of_below hb).trans ht' (fun k hk => .inl hk), fun i hi => (hf i hi).imp id (fun h => Nat.le_trans hb.size h)⟩
theorem RRes.tch (h : RRes w1 w' br m' fv sv tv) (ht : Tch (fun i => i = br) w w1) : RRes w w' br m' fv sv tv := by
  obtain ⟨a, b, c, pp, ht', hf⟩ := h
  exact ⟨a, b, c, pp, (ht.mono (fun k hk _ => show rfoot br fv sv tv k from .inl hk)).trans ht' (fun k hk => .inl hk), fun i hi => (hf i hi).imp id (fun h => Nat.le_trans ht.size h)⟩
theorem RDone.same (pp : RP w br m fv sv tv) (hF : ∀ i, rfoot br fv sv tv i → F i) (h : r = (n, m)) : ∀ e w', e = Ending.returned (.int .i64 n) ∧ Below w.heap.size w w' → RDone br F w r e w' := by
  rintro e w' ⟨he, ht⟩
  rw [h]
  exact ⟨he, (RRes.same pp ht).plate hF⟩
theorem RDone.res (hF : ∀ i, rfoot br fv sv tv i → F i) (h : r = (0, m')) : ∀ e w', e = Ending.returned (.int .i64 0) ∧ RRes w w' br m' fv sv tv → RDone br F w r e w' := by
  rintro e w' ⟨he, hr⟩
  rw [h]
  exact ⟨he, hr.plate hF⟩
theorem limitR (n : Int) (pp : RP w br m fv sv tv) :
    Calls Try.prog 40 #[.pointer (some ⟨br, 0, none⟩), .int .i64 n] w fun e w' => e = .returned (.tuple #[]) ∧ w' = w.setCell ⟨br, 3, none⟩ (.int .i64 (max n (-1))) := by
  have c3 : w.cell? ⟨br, 3, none⟩ = some (.int .i64 m.power) := cell_at pp.top 3
  have f3 : w.frozen? ⟨br, 3, none⟩ = false := melt_at pp.top 3
  clear pp
  go_enter Try.func40, Try.ntmps40
  go_wp2
  all_goals (go_end0; refine ⟨rfl, ?_⟩; congr 2 <;> omega)
theorem LimitR_calls (k : Int) (hP : RPlate w br m F) :
    Calls Try.prog 40 #[.pointer (some ⟨br, 0, none⟩), .int .i64 k] w fun e w' => e = .returned (.tuple #[]) ∧ RPlate w' br (limit m k) (grow F w w') ∧ Tch F w w' := by
  obtain ⟨fv, sv, tv, pp, hF⟩ := hP
  refine (limitR k pp).mono ?_
  rintro e w' ⟨he, rfl⟩
  have h : RRes w (w.setCell ⟨br, 3, none⟩ (.int .i64 (max k (-1)))) br (limit m k) fv sv tv := ⟨fv, sv, tv, pp.power (max k (-1)), (Tch.refl _ w).andSet _ (.inl (.inl rfl)), fun _ h => .inl h⟩
  exact ⟨he, h.plate hF⟩
theorem RP.settled (h : RP w br m fv sv tv) (hb : Below w.heap.size w w1) {v : Value} {d : Dir} (hv : w1.ownsRow 0 89 2 v d.length (slotsC d)) (hvs : v = sv ∨ ∀ k, v.ownBlock = some k → w.heap.size ≤ k) :
    RRes w ((w1.setCell ⟨br, 1, none⟩ v).setCell ⟨br, 2, none⟩ (.slice none 0 0)) br { m with safe := d, steps := [] } fv sv tv := by
  have h1 := h.below hb
  obtain ⟨n1, n2, n3⟩ := h1.br_ne
  have hvb : v.ownBlock ≠ some br := fun e => by
    obtain ⟨_, e2⟩ := row_block hv e
    exact cells_ne h1.top e2 zb8 rfl
  refine ⟨fv, v, .slice none 0 0, ⟨?_, ?_, ?_, World.ownsRow_nil _ _ _ _⟩, ((Tch.of_below hb).andSet _ (.inl (.inl rfl))).andSet _ (.inl (.inl rfl)), fun i hi => ?_⟩
  · exact set_same (set_same h1.top 1 v) 2 _
  · exact own_move h1.files (fun k hk => (set_other 2 _ (blk_ne n1 hk)).trans (set_other 1 _ (blk_ne n1 hk)))
  · exact own_move hv (fun k hk => (set_other 2 _ (blk_ne hvb hk)).trans (set_other 1 _ (blk_ne hvb hk)))
  · rcases hi with hi | hi | hi | hi
    · exact .inl (.inl hi)
    · exact .inl (.inr (.inl hi))
    · rcases hvs with rfl | hvs
      · exact .inl (.inr (.inr (.inl hi)))
      · exact .inr (hvs i hi)
    · cases hi
theorem syncdirR_dead (pp : RP w br m fv sv tv) (hp : m.power = 0) :
    Calls Try.prog 39 #[.pointer (some ⟨br, 0, none⟩)] w fun e w' => e = .returned (.int .i64 13) ∧ Below w.heap.size w w' := by
  have HS := Lib.hid (spendR_no pp hp)
  clear pp
  go_enter Try.func39, Try.ntmps39
  go_wp2_with (first
    | (go_at_call 30; refine HS.out.mono ?_; rintro e w1 ⟨rfl, rfl⟩)
    | go_in)
  go_ret
  exact ⟨rfl, Below.refl _ _⟩
set_option maxRecDepth 100000 in
set_option maxHeartbeats 4000000 in
theorem syncdirR_ok (pp : RP w br m fv sv tv) (hp : m.power ≠ 0) (hi : Inv C m) (hC : C ≤ 100000000) :
    Calls Try.prog 39 #[.pointer (some ⟨br, 0, none⟩)] w fun e w' => e = .returned (.int .i64 0) ∧ RRes w w' br { m with safe := m.now, steps := [], power := spend m.power } fv sv tv := by
  have HS := Lib.hid (spendR_ok pp hp hi.pow0 hi.pow1)
  have hi2 : Inv C { m with power := spend m.power } := ⟨hi.sorted, hi.keyS, hi.keyT, hi.size, hi.room0, hi.room1, (spend_ge hi.pow0 hp).1, Int.le_trans (spend_ge hi.pow0 hp).2 hi.pow1, hi.count, hi.many⟩
  have HI := Lib.hid hi2
  obtain ⟨T, tc, rfl⟩ := row_slice pp.steps
  clear pp hi hi2
  go_enter Try.func39, Try.ntmps39
  go_wp2_with (first
    | (go_at_call 30; refine HS.out.mono ?_; rintro e w1 ⟨rfl, pp1, ht1⟩; have PP1 := Lib.hid pp1; have T1 := Lib.hid ht1; have d2 : w1.cell? ⟨br, 2, none⟩ = some (.slice T m.steps.length tc) := cell_at pp1.top 2; clear pp1 ht1)
    | (go_at_call 29; refine (nowR_all PP1.out HI.out hC).mono ?_; rintro e w2 ⟨v, rfl, hrow, hv, hb⟩; have HR := Lib.hid hrow; have HV := Lib.hid hv; have HB := Lib.hid hb; have pp2 := PP1.out.below hb; obtain ⟨A, c, rfl⟩ := row_slice hrow; have k1 : w2.cell? ⟨br, 1, none⟩ = some sv := cell_at pp2.top 1; have y1 : w2.frozen? ⟨br, 1, none⟩ = false := melt_at pp2.top 1; have k2 : w2.cell? ⟨br, 2, none⟩ = some (.slice T m.steps.length tc) := cell_at pp2.top 2; have y2 : w2.frozen? ⟨br, 2, none⟩ = false := melt_at pp2.top 2; clear hrow hv hb pp2)
    | go_in)
  go_ret
  exact ⟨rfl, RRes.tch (PP1.out.settled HB.out HR.out HV.out) T1.out⟩
theorem SyncDirR_calls (hP : RPlate w br m F) (hi : Inv C m) (hC : C ≤ 100000000) :
    Calls Try.prog 39 #[.pointer (some ⟨br, 0, none⟩)] w (RDone br F w (syncDir m)) := by
  obtain ⟨fv, sv, tv, pp, hF⟩ := hP
  by_cases hp : m.power = 0
  · exact (syncdirR_dead pp hp).mono (RDone.same pp hF (by unfold syncDir; rw [if_pos hp]))
  · exact (syncdirR_ok pp hp hi hC).mono (RDone.res hF (by unfold syncDir; rw [if_neg hp]))
theorem rstep_info : (Try.prog.info? 76).map (fun i => (i.zero, i.size, i.bytes)) = some (some (.agg #[.string ⟨#[]⟩, .int .i64 0]), 2, 24) := by kernel_rfl
theorem cells_new (w : World) (t : TypeId) (cs : List Value) : ∀ j v, cs[j]? = some v → (w.alloc (.cells cs.toArray t)).cell? ((⟨w.heap.size, 0, none⟩ : Addr).add j) = some v := by
  intro j v hj
  rw [show ((⟨w.heap.size, 0, none⟩ : Addr).add j) = ⟨w.heap.size, j, none⟩ from by unfold Addr.add; split <;> simp_all, cell_at (alloc_new w _)]
  simpa using hj
theorem RP.stepped (h : RP w br m fv sv tv) {W : World} (hW : Below w.heap.size w W) {w2 : World} {v2 : Value} {news : List Stp} (hg : W.grownBy w2 tv.ownBlock) (hown : w2.ownsRow 0 76 2 v2 (m.steps.length + news.length) (rstepsC (m.steps ++ news))) (hloc : v2.ownBlock = tv.ownBlock ∨ v2.ownBlock = some W.heap.size) :
    RRes w (w2.setCell ⟨br, 2, none⟩ v2) br { m with steps := m.steps ++ news } fv sv tv := by
  have h1 := h.below hW
  obtain ⟨n1, n2, n3⟩ := h1.br_ne
  have top2 := (hg.block br (blk_lt h1.top) (fun e => n3 e.symm)).trans h1.top
  have hvb : v2.ownBlock ≠ some br := fun e => by
    obtain ⟨_, e2⟩ := row_block hown e
    exact cells_ne top2 e2 zb8 rfl
  refine ⟨fv, sv, v2, ⟨set_same top2 2 v2, ?_, ?_, ?_⟩, ((Tch.of_below hW).andGrown hg (fun k hk => .inl (.inr (.inr (.inr hk))))).andSet _ (.inl (.inl rfl)), fun i hi => ?_⟩
  · exact own_move h1.files (fun k hk => (set_other 2 _ (blk_ne n1 hk)).trans (hg.block k (h1.lt (.inr (.inl hk))) (fun e => (h1.apart.1 hk).2 e.symm)))
  · exact own_move h1.safe (fun k hk => (set_other 2 _ (blk_ne n2 hk)).trans (hg.block k (h1.lt (.inr (.inr (.inl hk)))) (fun e => h1.apart.2 hk e.symm)))
  · show (w2.setCell ⟨br, 2, none⟩ v2).ownsRow 0 _ 2 v2 (m.steps ++ news).length _
    rw [List.length_append]
    exact own_move hown (fun k hk => set_other 2 _ (blk_ne hvb hk))
  · rcases hi with hi | hi | hi | hi
    · exact .inl (.inl hi)
    · exact .inl (.inr (.inl hi))
    · exact .inl (.inr (.inr (.inl hi)))
    · rcases hloc with e | e
      · exact .inl (.inr (.inr (.inr (e ▸ hi))))
      · rw [e] at hi
        have := Option.some.inj hi
        have := hW.size
        exact .inr zb6
end
section
variable {w w' w1 : World} {br : Nat} {m m' : Mach} {fv sv tv : Value} {F : Nat → Prop} {C : Nat} {r : Int × Mach} {n : Int}
theorem rsteps_one (l : List Stp) (s : ByteArray) (o : Option Nat) : rstepsC (l ++ [(s.data.toList, o)]) = rstepsC l ++ [.string s, .int .i64 (keyI o)] := by
  unfold rstepsC rstepC
  rw [List.flatMap_append]
  simp [mkB_self]
theorem rsteps_two (l : List Stp) (s t : ByteArray) (o q : Option Nat) : rstepsC (l ++ [(s.data.toList, o), (t.data.toList, q)]) = rstepsC l ++ [.string s, .int .i64 (keyI o), .string t, .int .i64 (keyI q)] := by
  unfold rstepsC rstepC
  rw [List.flatMap_append]
  simp [mkB_self]
theorem removeR_none (s : ByteArray) (pp : RP w br m fv sv tv) (hl : m.find s.data.toList = none) (hi : Inv C m) (hC : C ≤ 100000000) :
    Calls Try.prog 38 #[.pointer (some ⟨br, 0, none⟩), .string s] w fun e w' => e = .returned (.int .i64 10) ∧ Below w.heap.size w w' := by
  have HF := Lib.hid (findR s pp hi hC)
  rw [hl] at HF
  clear pp hi hl
  go_enter Try.func38, Try.ntmps38
  go_wp2_with (first
    | (go_at_call 28; refine HF.out.mono ?_; rintro e w1 ⟨rfl, hb⟩; simp only [keyI])
    | go_in)
  go_ret
  exact ⟨rfl, hb⟩
theorem removeR_dead (s : ByteArray) (k : Nat) (pp : RP w br m fv sv tv) (hl : m.find s.data.toList = some k) (hp : m.power = 0) (hi : Inv C m) (hC : C ≤ 100000000) :
    Calls Try.prog 38 #[.pointer (some ⟨br, 0, none⟩), .string s] w fun e w' => e = .returned (.int .i64 13) ∧ Below w.heap.size w w' := by
  have HF := Lib.hid (findR s pp hi hC)
  rw [hl] at HF
  have PP := Lib.hid pp
  clear pp hi hl
  go_enter Try.func38, Try.ntmps38
  go_wp2_with (first
    | (go_at_call 28; refine HF.out.mono ?_; rintro e w1 ⟨rfl, hb⟩; simp only [keyI]; have HB := Lib.hid hb; clear hb)
    | (go_at_call 30; refine (spendR_no (PP.out.below HB.out) hp).mono ?_; rintro e w2 ⟨rfl, rfl⟩)
    | go_in)
  go_ret
  exact ⟨rfl, HB.out⟩
set_option maxRecDepth 100000 in
set_option maxHeartbeats 4000000 in
theorem removeR_ok (s : ByteArray) (k : Nat) (pp : RP w br m fv sv tv) (hl : m.find s.data.toList = some k) (hp : m.power ≠ 0) (hi : Inv C m) (hC : C ≤ 100000000) :
    Calls Try.prog 38 #[.pointer (some ⟨br, 0, none⟩), .string s] w fun e w' => e = .returned (.int .i64 0) ∧ RRes w w' br { m with steps := m.steps ++ [(s.data.toList, none)], power := spend m.power } fv sv tv := by
  have HF := Lib.hid (findR s pp hi hC)
  rw [hl] at HF
  have hst := hi.count
  have HI := Lib.hid hi
  obtain ⟨i0, hi0, hz⟩ := Option.map_eq_some_iff.1 rstep_info
  simp only [Prod.mk.injEq] at hz
  obtain ⟨hz0, hz1, hz2⟩ := hz
  obtain ⟨T, tc, rfl⟩ := row_slice pp.steps
  have PP := Lib.hid pp
  clear pp hi hl
  go_enter Try.func38, Try.ntmps38
  go_wp2_with (first
    | (go_at_call 28; refine HF.out.mono ?_; rintro e w1 ⟨rfl, hb⟩; simp only [keyI]; have HB := Lib.hid hb; clear hb)
    | (go_at_call 30; refine (spendR_ok (PP.out.below HB.out) hp HI.out.pow0 HI.out.pow1).mono ?_; rintro e w2 ⟨rfl, pp2, ht2⟩; have PP2 := Lib.hid pp2; have T2 := Lib.hid ht2; have d2 : w2.cell? ⟨br, 2, none⟩ = some (.slice T m.steps.length tc) := cell_at pp2.top 2; clear pp2 ht2)
    | (at_builtin; refine wpList_append_own_at _ rfl _ _ 58 rfl 0 76 i0 _ 2 24 Try.underlying58 hi0 hz0 hz1 hz2 rfl zb8 _ m.steps.length _ rfl (PP2.out.alloc _).steps ⟨w2.heap.size, 0, none⟩ 1 1 [.string s, .int .i64 (-1)] rfl rfl (cells_new _ _ _) (by simp [Value.oneCell']) (by unfold maxLen; omega) zb6 (Nat.zero_le _) ?_; intro v3 w3 hown3 hgr3 hnil3 hloc3; obtain ⟨A3, cc3, rfl⟩ := row_slice hown3; have top3 := (hgr3.block br (blk_lt (PP2.out.alloc _).top) (fun e => PP2.out.br_ne.2.2 e.symm)).trans (PP2.out.alloc _).top; have k3 : w3.cell? ⟨br, 2, none⟩ = some (.slice T m.steps.length tc) := cell_at top3 2; have y3 : w3.frozen? ⟨br, 2, none⟩ = false := melt_at top3 2; have HO := Lib.hid hown3; have HG := Lib.hid hgr3; have HL := Lib.hid hloc3; clear hown3 hgr3 hnil3 hloc3 top3)
    | go_in)
  go_ret
  refine ⟨rfl, RRes.ahead (RRes.tch (RP.stepped PP2.out ((Below.refl _ _).alloc (Nat.le_refl _) _) (news := [(s.data.toList, none)]) HG.out ?_ HL.out) T2.out) HB.out⟩
  rw [show rstepsC (m.steps ++ [(s.data.toList, none)]) = rstepsC m.steps ++ [.string s, .int .i64 (-1)] from rsteps_one _ _ _]
  exact HO.out
theorem RemoveR_calls (s : ByteArray) (hP : RPlate w br m F) (hi : Inv C m) (hC : C ≤ 100000000) :
    Calls Try.prog 38 #[.pointer (some ⟨br, 0, none⟩), .string s] w (RDone br F w (remove m s.data.toList)) := by
  obtain ⟨fv, sv, tv, pp, hF⟩ := hP
  cases hl : m.find s.data.toList with
  | none => exact (removeR_none s pp hl hi hC).mono (RDone.same pp hF (by unfold remove; rw [hl]))
  | some k =>
    by_cases hp : m.power = 0
    · exact (removeR_dead s k pp hl hp hi hC).mono (RDone.same pp hF (by unfold remove; rw [hl]; simp only; rw [if_pos hp]))
    · exact (removeR_ok s k pp hl hp hi hC).mono (RDone.res hF (by unfold remove; rw [hl]; simp only; rw [if_neg hp]))
theorem name_ifs {α : Type} (b : Int) (R S : α) :
    (if b ≥ 48 then (if b ≤ 57 then R else (if b ≥ 97 then (if b ≤ 122 then R else (if b = 46 then R else (if b = 45 then R else S))) else (if b = 46 then R else (if b = 45 then R else S)))) else (if b ≥ 97 then (if b ≤ 122 then R else (if b = 46 then R else (if b = 45 then R else S))) else (if b = 46 then R else (if b = 45 then R else S)))) =
      if (48 ≤ b ∧ b ≤ 57) ∨ (97 ≤ b ∧ b ≤ 122) ∨ b = 46 ∨ b = 45 then R else S := by
  (repeat' split) <;> first | rfl | (exfalso; omega)
theorem nameB_iff (c : UInt8) : nameB c = true ↔ (48 ≤ (c.toNat : Int) ∧ (c.toNat : Int) ≤ 57) ∨ (97 ≤ (c.toNat : Int) ∧ (c.toNat : Int) ≤ 122) ∨ (c.toNat : Int) = 46 ∨ (c.toNat : Int) = 45 := by
  unfold nameB
  have e1 : (c == 46) = decide (c.toNat = 46) := by
    rw [Bool.eq_iff_iff]
    simp only [beq_iff_eq, decide_eq_true_eq]
    exact ⟨fun h => by rw [h]; rfl, fun h => UInt8.toNat_inj.1 h⟩
  have e2 : (c == 45) = decide (c.toNat = 45) := by
    rw [Bool.eq_iff_iff]
    simp only [beq_iff_eq, decide_eq_true_eq]
    exact ⟨fun h => by rw [h]; rfl, fun h => UInt8.toNat_inj.1 h⟩
  rw [e1, e2]
  simp only [Bool.or_eq_true, decide_eq_true_eq]
  omega
theorem name_loop (s : ByteArray) (hs : s.size ≤ 100000000000000) : ∀ (j i : Nat), i + j = s.size → P.broadsheetref01_Name.l0 (j + 1) s (i : Int) = some ((s.data.toList.drop i).all nameB)
  | 0, i, h => by
    unfold P.broadsheetref01_Name.l0
    rw [if_neg zb6, List.drop_of_length_le (by rw [← Lib.size_eq]; omega)]
    rfl
  | j + 1, i, h => by
    have ih := name_loop s hs j (i + 1) zb6
    have hi : i < s.size := by omega
    have hb := bt_getD s i hi
    have hd : s.data.toList.drop i = s.data.toList.getD i 0 :: s.data.toList.drop (i + 1) := by
      rw [List.drop_eq_getElem_cons (by rw [← Lib.size_eq]; omega), List.getD_eq_getElem?_getD, List.getElem?_eq_getElem (by rw [← Lib.size_eq]; omega)]
      rfl
    have hw : wrap64 ((i : Int) + 1) = ((i + 1 : Nat) : Int) := by
      rw [show (i : Int) + 1 = ((i + 1 : Nat) : Int) by omega]
      exact wrap_nat _ zb6
    rw [hd, List.all_cons]
    conv => lhs; unfold P.broadsheetref01_Name.l0
    rw [if_pos zb6, if_pos zb6, hw, ih, name_ifs, ← hb]
    cases hn : nameB (s.data.toList.getD i 0) with
    | true => rw [if_pos ((nameB_iff _).1 hn), Bool.true_and]
    | false => rw [if_neg (fun h => by rw [(nameB_iff _).2 h] at hn; cases hn), Bool.false_and]
theorem name_j0 (K : Nat) (s : ByteArray) (b : Bool) : P.broadsheetref01_Name.j0 (K + 1) s b = if b = true then some false else P.broadsheetref01_Name.l0 K s 0 := by
  conv => lhs; unfold P.broadsheetref01_Name.j0
theorem name_plain (s : ByteArray) (hs : s.size ≤ 100000000000000) : P.broadsheetref01_Name.f (s.size + 1 + 1) s = some (nameOk s.data.toList) := by
  have h0 := name_loop s hs s.size 0 zb6
  have hl : s.data.toList.length = s.size := (Lib.size_eq s).symm
  unfold P.broadsheetref01_Name.f nameOk
  rw [ByteArray.toList_eq, hl, name_j0, name_j0]
  by_cases he : s.data.toList = []
  · rw [if_pos he, if_pos rfl, he]
    rfl
  · have he' : s.data.toList.isEmpty = false := by cases h : s.data.toList <;> simp_all
    rw [if_neg he, he']
    by_cases hk : s.size ≤ 32
    · have e : decide ((s.size : Int) > 32) = false := decide_eq_false zb6
      rw [e, if_neg zb8]
      refine h0.trans ?_
      rw [List.drop_zero]
      simp [hk]
    · have e : decide ((s.size : Int) > 32) = true := decide_eq_true zb6
      rw [e, if_pos rfl]
      simp [hk]
theorem nameR (s : ByteArray) (hs : s.size ≤ 100000000000000) (w : World) :
    Calls Try.prog 27 #[.string s] w fun e w' => e = .returned (.bool (nameOk s.data.toList)) ∧ Below w.heap.size w w' :=
  (P.broadsheetref01_Name.calls _ s _ w (name_plain s hs)).mono (by
    rintro e w' ⟨he, hd⟩
    exact ⟨he, hd.below⟩)
theorem renameR_none (s t : ByteArray) (pp : RP w br m fv sv tv) (hl : m.find s.data.toList = none) (hi : Inv C m) (hC : C ≤ 100000000) :
    Calls Try.prog 36 #[.pointer (some ⟨br, 0, none⟩), .string s, .string t] w fun e w' => e = .returned (.int .i64 10) ∧ Below w.heap.size w w' := by
  have HF := Lib.hid (findR s pp hi hC)
  rw [hl] at HF
  clear pp hi hl
  go_enter Try.func36, Try.ntmps36
  go_wp2_with (first
    | (go_at_call 28; refine HF.out.mono ?_; rintro e w1 ⟨rfl, hb⟩; simp only [keyI])
    | go_in)
  go_ret
  exact ⟨rfl, hb⟩
theorem renameR_bad (s t : ByteArray) (k : Nat) (ht : t.size ≤ 100000000000000) (pp : RP w br m fv sv tv) (hl : m.find s.data.toList = some k) (hn : nameOk t.data.toList = false) (hi : Inv C m) (hC : C ≤ 100000000) :
    Calls Try.prog 36 #[.pointer (some ⟨br, 0, none⟩), .string s, .string t] w fun e w' => e = .returned (.int .i64 1) ∧ Below w.heap.size w w' := by
  have HF := Lib.hid (findR s pp hi hC)
  rw [hl] at HF
  have HN := Lib.hid (fun W => nameR t ht W)
  rw [hn] at HN
  clear pp hi hl
  go_enter Try.func36, Try.ntmps36
  go_wp2_with (first
    | (go_at_call 28; refine HF.out.mono ?_; rintro e w1 ⟨rfl, hb⟩; simp only [keyI]; have HB := Lib.hid hb; clear hb)
    | (go_at_call 27; refine (HN.out _).mono ?_; rintro e w2 ⟨rfl, hb2⟩)
    | go_in)
  go_ret
  exact ⟨rfl, HB.out.trans (hb2.mono HB.out.size)⟩
theorem renameR_dead (s t : ByteArray) (k : Nat) (ht : t.size ≤ 100000000000000) (pp : RP w br m fv sv tv) (hl : m.find s.data.toList = some k) (hn : nameOk t.data.toList = true) (hp : m.power = 0) (hi : Inv C m) (hC : C ≤ 100000000) :
    Calls Try.prog 36 #[.pointer (some ⟨br, 0, none⟩), .string s, .string t] w fun e w' => e = .returned (.int .i64 13) ∧ Below w.heap.size w w' := by
  have HF := Lib.hid (findR s pp hi hC)
  rw [hl] at HF
  have HN := Lib.hid (fun W => nameR t ht W)
  rw [hn] at HN
  have PP := Lib.hid pp
  clear pp hi hl
  go_enter Try.func36, Try.ntmps36
  go_wp2_with (first
    | (go_at_call 28; refine HF.out.mono ?_; rintro e w1 ⟨rfl, hb⟩; simp only [keyI]; have HB := Lib.hid hb; clear hb)
    | (go_at_call 27; refine (HN.out _).mono ?_; rintro e w2 ⟨rfl, hb2⟩; have HB2 := Lib.hid (HB.out.trans (hb2.mono HB.out.size)); clear hb2)
    | (go_at_call 30; refine (spendR_no (PP.out.below HB2.out) hp).mono ?_; rintro e w3 ⟨rfl, rfl⟩)
    | go_in)
  go_ret
  exact ⟨rfl, HB2.out⟩
theorem renameR_self (s t : ByteArray) (k : Nat) (ht : t.size ≤ 100000000000000) (pp : RP w br m fv sv tv) (hl : m.find s.data.toList = some k) (hn : nameOk t.data.toList = true) (hp : m.power ≠ 0) (hst : s = t) (hi : Inv C m) (hC : C ≤ 100000000) :
    Calls Try.prog 36 #[.pointer (some ⟨br, 0, none⟩), .string s, .string t] w fun e w' => e = .returned (.int .i64 0) ∧ RRes w w' br { m with power := spend m.power } fv sv tv := by
  subst hst
  have HF := Lib.hid (findR s pp hi hC)
  rw [hl] at HF
  have HN := Lib.hid (fun W => nameR s ht W)
  rw [hn] at HN
  have PP := Lib.hid pp
  have HI := Lib.hid hi
  clear pp hi hl
  go_enter Try.func36, Try.ntmps36
  go_wp2_with (first
    | (go_at_call 28; refine HF.out.mono ?_; rintro e w1 ⟨rfl, hb⟩; simp only [keyI]; have HB := Lib.hid hb; clear hb)
    | (go_at_call 27; refine (HN.out _).mono ?_; rintro e w2 ⟨rfl, hb2⟩; have HB2 := Lib.hid (HB.out.trans (hb2.mono HB.out.size)); clear hb2)
    | (go_at_call 30; refine (spendR_ok (PP.out.below HB2.out) hp HI.out.pow0 HI.out.pow1).mono ?_; rintro e w3 ⟨rfl, pp3, ht3⟩; have PP3 := Lib.hid pp3; have T3 := Lib.hid ht3; clear pp3 ht3)
    | go_in)
  go_ret
  exact ⟨rfl, RRes.ahead (RRes.tch (RRes.same PP3.out (Below.refl _ _)) T3.out) HB2.out⟩
set_option maxRecDepth 100000 in
set_option maxHeartbeats 4000000 in
theorem renameR_ok (s t : ByteArray) (k : Nat) (ht : t.size ≤ 100000000000000) (pp : RP w br m fv sv tv) (hl : m.find s.data.toList = some k) (hn : nameOk t.data.toList = true) (hp : m.power ≠ 0) (hst : s.data.toList ≠ t.data.toList) (hi : Inv C m) (hC : C ≤ 100000000) :
    Calls Try.prog 36 #[.pointer (some ⟨br, 0, none⟩), .string s, .string t] w fun e w' => e = .returned (.int .i64 0) ∧ RRes w w' br { m with steps := m.steps ++ [(t.data.toList, some k), (s.data.toList, none)], power := spend m.power } fv sv tv := by
  have HF := Lib.hid (findR s pp hi hC)
  rw [hl] at HF
  have HN := Lib.hid (fun W => nameR t ht W)
  rw [hn] at HN
  have hcnt := hi.count
  have HI := Lib.hid hi
  have hne : (s.toList == t.toList) = false := beq_eq_false_iff_ne.2 (by rw [ByteArray.toList_eq, ByteArray.toList_eq]; exact hst)
  have hne2 : (s.toList != t.toList) = true := by rw [bne, hne]; rfl
  obtain ⟨i0, hi0, hz⟩ := Option.map_eq_some_iff.1 rstep_info
  simp only [Prod.mk.injEq] at hz
  obtain ⟨hz0, hz1, hz2⟩ := hz
  obtain ⟨T, tc, rfl⟩ := row_slice pp.steps
  have PP := Lib.hid pp
  clear pp hi hl hst
  go_enter Try.func36, Try.ntmps36
  go_wp2_with (first
    | (go_at_call 28; refine HF.out.mono ?_; rintro e w1 ⟨rfl, hb⟩; simp only [keyI]; have HB := Lib.hid hb; clear hb)
    | (go_at_call 27; refine (HN.out _).mono ?_; rintro e w2 ⟨rfl, hb2⟩; have HB2 := Lib.hid (HB.out.trans (hb2.mono HB.out.size)); clear hb2)
    | (go_at_call 30; refine (spendR_ok (PP.out.below HB2.out) hp HI.out.pow0 HI.out.pow1).mono ?_; rintro e w3 ⟨rfl, pp3, ht3⟩; have PP3 := Lib.hid pp3; have T3 := Lib.hid ht3; have d2 : w3.cell? ⟨br, 2, none⟩ = some (.slice T m.steps.length tc) := cell_at pp3.top 2; clear pp3 ht3)
    | (at_builtin; refine wpList_append_own_at _ rfl _ _ 58 rfl 0 76 i0 _ 2 24 Try.underlying58 hi0 hz0 hz1 hz2 rfl zb8 _ m.steps.length _ rfl (PP3.out.alloc _).steps ⟨w3.heap.size, 0, none⟩ 2 2 [.string t, .int .i64 (k : Int), .string s, .int .i64 (-1)] rfl rfl (cells_new _ _ _) (by simp [Value.oneCell']) (by unfold maxLen; omega) zb6 (Nat.zero_le _) ?_; intro v4 w4 hown4 hgr4 hnil4 hloc4; obtain ⟨A4, cc4, rfl⟩ := row_slice hown4; have top4 := (hgr4.block br (blk_lt (PP3.out.alloc _).top) (fun e => PP3.out.br_ne.2.2 e.symm)).trans (PP3.out.alloc _).top; have k4 : w4.cell? ⟨br, 2, none⟩ = some (.slice T m.steps.length tc) := cell_at top4 2; have y4 : w4.frozen? ⟨br, 2, none⟩ = false := melt_at top4 2; have HO := Lib.hid hown4; have HG := Lib.hid hgr4; have HL := Lib.hid hloc4; clear hown4 hgr4 hnil4 hloc4 top4)
    | go_in)
  go_ret
  refine ⟨rfl, RRes.ahead (RRes.tch (RP.stepped PP3.out ((Below.refl _ _).alloc (Nat.le_refl _) _) (news := [(t.data.toList, some k), (s.data.toList, none)]) HG.out ?_ HL.out) T3.out) HB2.out⟩
  rw [show rstepsC (m.steps ++ [(t.data.toList, some k), (s.data.toList, none)]) = rstepsC m.steps ++ [.string t, .int .i64 (k : Int), .string s, .int .i64 (-1)] from rsteps_two _ _ _ _ _]
  exact HO.out
theorem RenameR_calls (s t : ByteArray) (ht : t.size ≤ 100000000000000) (hP : RPlate w br m F) (hi : Inv C m) (hC : C ≤ 100000000) :
    Calls Try.prog 36 #[.pointer (some ⟨br, 0, none⟩), .string s, .string t] w (RDone br F w (rename m s.data.toList t.data.toList)) := by
  obtain ⟨fv, sv, tv, pp, hF⟩ := hP
  cases hl : m.find s.data.toList with
  | none => exact (renameR_none s t pp hl hi hC).mono (RDone.same pp hF (by unfold rename; rw [hl]))
  | some k =>
    cases hn : nameOk t.data.toList with
    | false => exact (renameR_bad s t k ht pp hl hn hi hC).mono (RDone.same pp hF (by unfold rename; rw [hl]; simp only; rw [if_pos hn]))
    | true =>
      have hn' : ¬ nameOk t.data.toList = false := by rw [hn]; decide
      by_cases hp : m.power = 0
      · exact (renameR_dead s t k ht pp hl hn hp hi hC).mono (RDone.same pp hF (by unfold rename; rw [hl]; simp only; rw [if_neg hn', if_pos hp]))
      · by_cases hab : s.data.toList = t.data.toList
        · have hst : s = t := by rw [← mkB_self s, hab, mkB_self]
          exact (renameR_self s t k ht pp hl hn hp hst hi hC).mono (RDone.res hF (by unfold rename; rw [hl]; simp only; rw [if_neg hn', if_neg hp, if_pos hab]))
        · exact (renameR_ok s t k ht pp hl hn hp hab hi hC).mono (RDone.res hF (by unfold rename; rw [hl]; simp only; rw [if_neg hn', if_neg hp, if_neg hab]))
end
section
variable {w w' w1 : World} {br : Nat} {m m1 m' : Mach} {fv sv tv fv1 sv1 tv1 : Value} {F : Nat → Prop} {C : Nat} {r : Int × Mach} {n : Int}
theorem RRes.next (ht : Tch (rfoot br fv sv tv) w w1) (hf : ∀ i, rfoot br fv1 sv1 tv1 i → rfoot br fv sv tv i ∨ w.heap.size ≤ i) (h : RRes w1 w' br m' fv1 sv1 tv1) : RRes w w' br m' fv sv tv := by
  obtain ⟨a, b, c, pp, t, f⟩ := h
  exact ⟨a, b, c, pp, ht.trans t hf, fun i hi => (f i hi).elim (hf i) (fun h => .inr (Nat.le_trans ht.size h))⟩
theorem file_info : (Try.prog.info? 74).map (fun i => (i.zero, i.size, i.bytes)) = some (some (.agg #[.string ⟨#[]⟩, .string ⟨#[]⟩]), 2, 32) := by kernel_rfl
theorem fils_one (l : List Fil) : filsC (l ++ [⟨[], []⟩]) = filsC l ++ [.string ⟨#[]⟩, .string ⟨#[]⟩] := by
  unfold filsC filC
  rw [List.flatMap_append]
  simp [mkB]
theorem RP.filed (h : RP w br m fv sv tv) {W : World} (hW : Below w.heap.size w W) {w2 : World} {v2 : Value} {fs : List Fil} (hg : W.grownBy w2 fv.ownBlock) (hown : w2.ownsRow 0 74 2 v2 fs.length (filsC fs)) (hloc : v2.ownBlock = fv.ownBlock ∨ v2.ownBlock = some W.heap.size) :
    RP (w2.setCell ⟨br, 0, none⟩ v2) br { m with files := fs } v2 sv tv ∧ Tch (rfoot br fv sv tv) w (w2.setCell ⟨br, 0, none⟩ v2) ∧ ∀ i, rfoot br v2 sv tv i → rfoot br fv sv tv i ∨ w.heap.size ≤ i := by
  have h1 := h.below hW
  obtain ⟨n1, n2, n3⟩ := h1.br_ne
  have top2 := (hg.block br (blk_lt h1.top) (fun e => n1 e.symm)).trans h1.top
  have hvb : v2.ownBlock ≠ some br := fun e => by
    obtain ⟨_, e2⟩ := row_block hown e
    exact cells_ne top2 e2 zb8 rfl
  refine ⟨⟨set_same top2 0 v2, ?_, ?_, ?_⟩, ((Tch.of_below hW).andGrown hg (fun k hk => .inl (.inr (.inl hk)))).andSet _ (.inl (.inl rfl)), fun i hi => ?_⟩
  · exact own_move hown (fun k hk => set_other 0 _ (blk_ne hvb hk))
  · exact own_move h1.safe (fun k hk => (set_other 0 _ (blk_ne n2 hk)).trans (hg.block k (h1.lt (.inr (.inr (.inl hk)))) (fun e => (h1.apart.1 e.symm).1 hk)))
  · exact own_move h1.steps (fun k hk => (set_other 0 _ (blk_ne n3 hk)).trans (hg.block k (h1.lt (.inr (.inr (.inr hk)))) (fun e => (h1.apart.1 e.symm).2 hk)))
  · rcases hi with hi | hi | hi | hi
    · exact .inl (.inl hi)
    · rcases hloc with e | e
      · exact .inl (.inr (.inl (e ▸ hi)))
      · rw [e] at hi
        have := Option.some.inj hi
        have := hW.size
        exact .inr zb6
    · exact .inl (.inr (.inr (.inl hi)))
    · exact .inl (.inr (.inr (.inr hi)))
theorem createR_bad (s : ByteArray) (hs : s.size ≤ 100000000000000) (hn : nameOk s.data.toList = false) :
    Calls Try.prog 9 #[.pointer (some ⟨br, 0, none⟩), .string s] w fun e w' => e = .returned (.int .i64 1) ∧ Below w.heap.size w w' := by
  have HN := Lib.hid (fun W => nameR s hs W)
  rw [hn] at HN
  go_enter Try.func9, Try.ntmps9
  go_wp2_with (first
    | (go_at_call 27; refine (HN.out _).mono ?_; rintro e w2 ⟨rfl, hb2⟩)
    | go_in)
  go_ret
  exact ⟨rfl, hb2⟩
theorem createR_twice (s : ByteArray) (k : Nat) (hs : s.size ≤ 100000000000000) (hn : nameOk s.data.toList = true) (pp : RP w br m fv sv tv) (hl : m.find s.data.toList = some k) (hi : Inv C m) (hC : C ≤ 100000000) :
    Calls Try.prog 9 #[.pointer (some ⟨br, 0, none⟩), .string s] w fun e w' => e = .returned (.int .i64 11) ∧ Below w.heap.size w w' := by
  have HN := Lib.hid (fun W => nameR s hs W)
  rw [hn] at HN
  have HF := Lib.hid (fun W (h : RP W br m fv sv tv) => findR s h hi hC)
  rw [hl] at HF
  have PP := Lib.hid pp
  clear pp hi hl
  go_enter Try.func9, Try.ntmps9
  go_wp2_with (first
    | (go_at_call 27; refine (HN.out _).mono ?_; rintro e w2 ⟨rfl, hb2⟩; have HB2 := Lib.hid hb2; clear hb2)
    | (go_at_call 28; refine (HF.out _ (PP.out.below HB2.out)).mono ?_; rintro e w3 ⟨rfl, hb3⟩; simp only [keyI]; have HB3 := Lib.hid (HB2.out.trans (hb3.mono HB2.out.size)); clear hb3)
    | go_in)
  go_ret
  exact ⟨rfl, HB3.out⟩
set_option maxRecDepth 100000 in
set_option maxHeartbeats 4000000 in
theorem createR_full (s : ByteArray) (hs : s.size ≤ 100000000000000) (hn : nameOk s.data.toList = true) (pp : RP w br m fv sv tv) (hl : m.find s.data.toList = none) (hfull : 200 ≤ m.now.length) (hi : Inv C m) (hC : C ≤ 100000000) :
    Calls Try.prog 9 #[.pointer (some ⟨br, 0, none⟩), .string s] w fun e w' => e = .returned (.int .i64 12) ∧ Below w.heap.size w w' := by
  have HN := Lib.hid (fun W => nameR s hs W)
  rw [hn] at HN
  have HF := Lib.hid (fun W (h : RP W br m fv sv tv) => findR s h hi hC)
  rw [hl] at HF
  obtain ⟨T, tc, rfl⟩ := row_slice pp.steps
  have PP := Lib.hid pp
  have HI := Lib.hid hi
  have hful2 : ((200 : Int) ≤ (m.now.length : Int)) := by omega
  clear pp hi hl
  go_enter Try.func9, Try.ntmps9
  go_wp2_with (first
    | (go_at_call 27; refine (HN.out _).mono ?_; rintro e w2 ⟨rfl, hb2⟩; have HB2 := Lib.hid hb2; clear hb2)
    | (go_at_call 28; refine (HF.out _ (PP.out.below HB2.out)).mono ?_; rintro e w3 ⟨rfl, hb3⟩; simp only [keyI]; have HB3 := Lib.hid (HB2.out.trans (hb3.mono HB2.out.size)); have d2 : w3.cell? ⟨br, 2, none⟩ = some (.slice T m.steps.length tc) := cell_at (PP.out.below HB3.out).top 2; clear hb3)
    | (go_at_call 29; refine (nowR_all (PP.out.below HB3.out) HI.out hC).mono ?_; rintro e w4 ⟨v, rfl, hrow, hv, hb4⟩; obtain ⟨A, c, rfl⟩ := row_slice hrow; have HB4 := Lib.hid (HB3.out.trans (hb4.mono HB3.out.size)); clear hrow hv hb4)
    | go_in)
  go_ret
  exact ⟨rfl, HB4.out⟩
set_option maxRecDepth 100000 in
set_option maxHeartbeats 4000000 in
theorem createR_dead (s : ByteArray) (hs : s.size ≤ 100000000000000) (hn : nameOk s.data.toList = true) (pp : RP w br m fv sv tv) (hl : m.find s.data.toList = none) (hfull : ¬ 200 ≤ m.now.length) (hp : m.power = 0) (hi : Inv C m) (hC : C ≤ 100000000) :
    Calls Try.prog 9 #[.pointer (some ⟨br, 0, none⟩), .string s] w fun e w' => e = .returned (.int .i64 13) ∧ Below w.heap.size w w' := by
  have HN := Lib.hid (fun W => nameR s hs W)
  rw [hn] at HN
  have HF := Lib.hid (fun W (h : RP W br m fv sv tv) => findR s h hi hC)
  rw [hl] at HF
  obtain ⟨T, tc, rfl⟩ := row_slice pp.steps
  have PP := Lib.hid pp
  have HI := Lib.hid hi
  have hful2 : ¬ ((200 : Int) ≤ (m.now.length : Int)) := by omega
  clear pp hi hl
  go_enter Try.func9, Try.ntmps9
  go_wp2_with (first
    | (go_at_call 27; refine (HN.out _).mono ?_; rintro e w2 ⟨rfl, hb2⟩; have HB2 := Lib.hid hb2; clear hb2)
    | (go_at_call 28; refine (HF.out _ (PP.out.below HB2.out)).mono ?_; rintro e w3 ⟨rfl, hb3⟩; simp only [keyI]; have HB3 := Lib.hid (HB2.out.trans (hb3.mono HB2.out.size)); have d2 : w3.cell? ⟨br, 2, none⟩ = some (.slice T m.steps.length tc) := cell_at (PP.out.below HB3.out).top 2; clear hb3)
    | (go_at_call 29; refine (nowR_all (PP.out.below HB3.out) HI.out hC).mono ?_; rintro e w4 ⟨v, rfl, hrow, hv, hb4⟩; obtain ⟨A, c, rfl⟩ := row_slice hrow; have HB4 := Lib.hid (HB3.out.trans (hb4.mono HB3.out.size)); clear hrow hv hb4)
    | (go_at_call 30; refine (spendR_no (PP.out.below HB4.out) hp).mono ?_; rintro e w5 ⟨rfl, rfl⟩)
    | go_in)
  go_ret
  exact ⟨rfl, HB4.out⟩
set_option maxRecDepth 100000 in
set_option maxHeartbeats 4000000 in
theorem createR_ok (s : ByteArray) (hs : s.size ≤ 100000000000000) (hn : nameOk s.data.toList = true) (pp : RP w br m fv sv tv) (hl : m.find s.data.toList = none) (hfull : ¬ 200 ≤ m.now.length) (hp : m.power ≠ 0) (hi : Inv C m) (hC : C ≤ 100000000) :
    Calls Try.prog 9 #[.pointer (some ⟨br, 0, none⟩), .string s] w fun e w' => e = .returned (.int .i64 0) ∧ RRes w w' br { m with files := m.files ++ [⟨[], []⟩], steps := m.steps ++ [(s.data.toList, some m.files.length)], power := spend m.power } fv sv tv := by
  have HN := Lib.hid (fun W => nameR s hs W)
  rw [hn] at HN
  have HF := Lib.hid (fun W (h : RP W br m fv sv tv) => findR s h hi hC)
  rw [hl] at HF
  obtain ⟨i0, hi0, hz⟩ := Option.map_eq_some_iff.1 rstep_info
  simp only [Prod.mk.injEq] at hz
  obtain ⟨hz0, hz1, hz2⟩ := hz
  obtain ⟨j0, hj0, hy⟩ := Option.map_eq_some_iff.1 file_info
  simp only [Prod.mk.injEq] at hy
  obtain ⟨hy0, hy1, hy2⟩ := hy
  obtain ⟨T, tc, rfl⟩ := row_slice pp.steps
  obtain ⟨A0, fc, rfl⟩ := row_slice pp.files
  have hcnt := hi.count
  have hmany := hi.many
  have PP := Lib.hid pp
  have HI := Lib.hid hi
  have hful2 : ¬ ((200 : Int) ≤ (m.now.length : Int)) := by omega
  have hwr : IntKind.i64.wrap (m.files.length : Int) = (m.files.length : Int) := by
    rw [IntKind.wrap_i64]
    omega
  clear pp hi hl
  go_enter Try.func9, Try.ntmps9
  go_wp2_with (first
    | (go_at_call 27; refine (HN.out _).mono ?_; rintro e w2 ⟨rfl, hb2⟩; have HB2 := Lib.hid hb2; clear hb2)
    | (go_at_call 28; refine (HF.out _ (PP.out.below HB2.out)).mono ?_; rintro e w3 ⟨rfl, hb3⟩; simp only [keyI]; have HB3 := Lib.hid (HB2.out.trans (hb3.mono HB2.out.size)); have d2 : w3.cell? ⟨br, 2, none⟩ = some (.slice T m.steps.length tc) := cell_at (PP.out.below HB3.out).top 2; clear hb3)
    | (go_at_call 29; refine (nowR_all (PP.out.below HB3.out) HI.out hC).mono ?_; rintro e w4 ⟨v, rfl, hrow, hv, hb4⟩; obtain ⟨A, c, rfl⟩ := row_slice hrow; have HB4 := Lib.hid (HB3.out.trans (hb4.mono HB3.out.size)); clear hrow hv hb4)
    | (go_at_call 30; refine (spendR_ok (PP.out.below HB4.out) hp HI.out.pow0 HI.out.pow1).mono ?_; rintro e w5 ⟨rfl, pp5, ht5⟩; have PP5 := Lib.hid pp5; have T5 := Lib.hid ht5; have d0 : w5.cell? ⟨br, 0, none⟩ = some (.slice A0 m.files.length fc) := cell_at pp5.top 0; clear pp5 ht5)
    | (at_builtin; refine wpList_append_own_at _ rfl _ _ 56 rfl 0 74 j0 _ 2 32 Try.underlying56 hj0 hy0 hy1 hy2 rfl zb8 _ m.files.length _ rfl (PP5.out.alloc _).files ⟨w5.heap.size, 0, none⟩ 1 1 [.string ⟨#[]⟩, .string ⟨#[]⟩] rfl rfl (cells_new _ _ _) (by simp [Value.oneCell']) (by unfold maxLen; omega) zb6 (Nat.zero_le _) ?_; intro v6 w6 hown6 hgr6 hnil6 hloc6; obtain ⟨A6, cc6, rfl⟩ := row_slice hown6; have top6 := (hgr6.block br (blk_lt (PP5.out.alloc _).top) (fun e => PP5.out.br_ne.1 e.symm)).trans (PP5.out.alloc _).top; have k6 : w6.cell? ⟨br, 0, none⟩ = some (.slice A0 m.files.length fc) := cell_at top6 0; have y6 : w6.frozen? ⟨br, 0, none⟩ = false := melt_at top6 0; have hfil := RP.filed PP5.out ((Below.refl _ _).alloc (Nat.le_refl _) _) (fs := m.files ++ [⟨[], []⟩]) hgr6 (by rw [List.length_append, fils_one]; exact hown6) hloc6; have HFIL := Lib.hid hfil; have z0 : (w6.setCell ⟨br, 0, none⟩ (.slice A6 (m.files.length + 1) cc6)).cell? ⟨br, 0, none⟩ = some (.slice A6 (m.files.length + 1) cc6) := cell_at hfil.1.top 0; have z2 : (w6.setCell ⟨br, 0, none⟩ (.slice A6 (m.files.length + 1) cc6)).cell? ⟨br, 2, none⟩ = some (.slice T m.steps.length tc) := cell_at hfil.1.top 2; have lt6 := blk_lt hfil.1.top; clear hown6 hgr6 hnil6 hloc6 top6 hfil)
    | go_in)
  generalize w6.setCell ⟨br, 0, none⟩ (.slice A6 (m.files.length + 1) cc6) = w7 at *
  go_region_law (refine step_append_lies _ rfl _ _ 58 rfl 0 76 i0 _ 2 24 Try.underlying58 hi0 hz0 hz1 hz2 rfl zb8 _ m.steps.length _ rfl (HFIL.out.1.alloc _).steps ⟨w7.heap.size, 0, none⟩ 1 1 [.string s, .int .i64 (m.files.length : Int)] rfl rfl (cells_new _ _ _) (by simp [Value.oneCell']) zb8 (by unfold maxLen; omega) zb6 (Nat.zero_le _) _ rfl ?_; intro g8 cap8 w8 hown8 hg8 hor8 hlt8; have top8 := (hg8.block br (blk_lt (HFIL.out.1.alloc _).top) (fun e => HFIL.out.1.br_ne.2.2 e.symm)).trans (HFIL.out.1.alloc _).top; have k8 : w8.cell? ⟨br, 2, none⟩ = some (.slice T m.steps.length tc) := cell_at top8 2; have y8 : w8.frozen? ⟨br, 2, none⟩ = false := melt_at top8 2; have HO := Lib.hid hown8; have HG := Lib.hid hg8; have HL := Lib.hid hor8; clear hown8 hg8 hor8 top8)
  all_goals
    have hrow8 : w8.ownsRow 0 76 2 (.slice (some ⟨g8, 0, none⟩) (m.steps.length + 1) cap8) (m.steps.length + 1) (rstepsC (m.steps ++ [(s.data.toList, some m.files.length)])) := by
      rw [show rstepsC (m.steps ++ [(s.data.toList, some m.files.length)]) = rstepsC m.steps ++ [.string s, .int .i64 (m.files.length : Int)] from rsteps_one _ _ _]
      exact HO.out
    have hres : RRes w7 (w8.setCell ⟨br, 2, none⟩ (.slice (some ⟨g8, 0, none⟩) (m.steps.length + 1) cap8)) br { m with files := m.files ++ [⟨[], []⟩], steps := m.steps ++ [(s.data.toList, some m.files.length)], power := spend m.power } (.slice A6 (m.files.length + 1) cc6) sv (.slice T m.steps.length tc) := by
      first
        | exact RP.stepped HFIL.out.1 (((Below.refl _ _).alloc (Nat.le_refl _) _).drew) (news := [(s.data.toList, some m.files.length)]) HG.out hrow8 (HL.out.imp (fun h => h.symm) (fun h => congrArg some h))
        | exact RP.stepped HFIL.out.1 (((Below.refl _ _).drew).alloc (Nat.le_refl _) _) (news := [(s.data.toList, some m.files.length)]) HG.out hrow8 (HL.out.imp (fun h => h.symm) (fun h => congrArg some h))
    have HRES := Lib.hid hres
    clear hres hrow8
    go_wp2
    go_ret
    exact ⟨rfl, RRes.ahead (RRes.tch (RRes.next HFIL.out.2.1 HFIL.out.2.2 HRES.out) T5.out) HB4.out⟩
theorem CreateR_calls (s : ByteArray) (hs : s.size ≤ 100000000000000) (hP : RPlate w br m F) (hi : Inv C m) (hC : C ≤ 100000000) :
    Calls Try.prog 9 #[.pointer (some ⟨br, 0, none⟩), .string s] w (RDone br F w (create m s.data.toList)) := by
  obtain ⟨fv, sv, tv, pp, hF⟩ := hP
  cases hn : nameOk s.data.toList with
  | false => exact (createR_bad s hs hn).mono (RDone.same pp hF (by unfold create; rw [if_pos hn]))
  | true =>
    have hn' : ¬ nameOk s.data.toList = false := by rw [hn]; decide
    cases hl : m.find s.data.toList with
    | some k => exact (createR_twice s k hs hn pp hl hi hC).mono (RDone.same pp hF (by unfold create; rw [if_neg hn', hl]; rfl))
    | none =>
      have hl' : ¬ (m.find s.data.toList).isSome = true := by rw [hl]; decide
      by_cases hfull : 200 ≤ m.now.length
      · exact (createR_full s hs hn pp hl hfull hi hC).mono (RDone.same pp hF (by unfold create; rw [if_neg hn', if_neg hl', if_pos hfull]))
      · by_cases hp : m.power = 0
        · exact (createR_dead s hs hn pp hl hfull hp hi hC).mono (RDone.same pp hF (by unfold create; rw [if_neg hn', if_neg hl', if_neg hfull, if_pos hp]))
        · exact (createR_ok s hs hn pp hl hfull hp hi hC).mono (RDone.res hF (by unfold create; rw [if_neg hn', if_neg hl', if_neg hfull, if_neg hp]))
end
section
variable {w w' w1 : World} {br : Nat} {m m1 m' : Mach} {fv sv tv fv1 sv1 tv1 : Value} {F : Nat → Prop} {C : Nat} {r : Int × Mach} {n : Int}
/-- One file's two texts are set. -/
theorem RP.file_set {g c : Nat} (h : RP w br m (.slice (some ⟨g, 0, none⟩) m.files.length c) sv tv) {k : Nat} (hk : k < m.files.length) (f : Fil) :
    RP ((w.setCell ⟨g, k * 2, none⟩ (.string (mkB f.safe))).setCell ⟨g, k * 2 + 1, none⟩ (.string (mkB f.loose))) br { m with files := m.files.set k f } (.slice (some ⟨g, 0, none⟩) m.files.length c) sv tv := by
  obtain ⟨n1, n2, n3⟩ := h.br_ne
  have hgb : br ≠ g := fun e => n1 (by rw [e]; rfl)
  have hfo : (Value.slice (some ⟨g, 0, none⟩) m.files.length c).ownBlock = some g := rfl
  refine ⟨?_, ?_, ?_, ?_⟩
  · exact ((set_other _ _ hgb).trans (set_other _ _ hgb)).trans h.top
  · have h1 := ((h.files.stored (k * 2) (.string (mkB f.safe))).1.stored (k * 2 + 1) (.string (mkB f.loose))).1
    show World.ownsRow _ _ _ _ _ (m.files.set k f).length (filsC (m.files.set k f))
    rw [List.length_set, filsC_set _ _ _ hk]
    exact h1
  · exact own_move h.safe (fun i hi => (set_other _ _ (blk_ne (h.apart.1 hfo).1 hi)).trans (set_other _ _ (blk_ne (h.apart.1 hfo).1 hi)))
  · exact own_move h.steps (fun i hi => (set_other _ _ (blk_ne (h.apart.1 hfo).2 hi)).trans (set_other _ _ (blk_ne (h.apart.1 hfo).2 hi)))
theorem set_same_list {α : Type} (l : List α) (i : Nat) (x : α) (h : l[i]? = some x) : l.set i x = l := by
  refine List.ext_getElem? (fun j => ?_)
  rw [List.getElem?_set]
  split
  · rename_i e
    subst e
    have := (List.getElem?_eq_some_iff.1 h).1
    rw [if_pos this, h]
  · rfl
/-- Its loose text is set. -/
theorem RP.loose_set {g c : Nat} (h : RP w br m (.slice (some ⟨g, 0, none⟩) m.files.length c) sv tv) {k : Nat} (hk : k < m.files.length) (l : L) :
    RP (w.setCell ⟨g, k * 2 + 1, none⟩ (.string (mkB l))) br { m with files := m.files.set k ⟨(fileAt m.files k).safe, l⟩ } (.slice (some ⟨g, 0, none⟩) m.files.length c) sv tv := by
  obtain ⟨n1, n2, n3⟩ := h.br_ne
  have hgb : br ≠ g := fun e => n1 (by rw [e]; rfl)
  have hfo : (Value.slice (some ⟨g, 0, none⟩) m.files.length c).ownBlock = some g := rfl
  refine ⟨?_, ?_, ?_, ?_⟩
  · exact (set_other _ _ hgb).trans h.top
  · have h1 := (h.files.stored (k * 2 + 1) (.string (mkB l))).1
    show World.ownsRow _ _ _ _ _ (m.files.set k _).length (filsC (m.files.set k _))
    rw [List.length_set, filsC_set _ _ _ hk, set_same_list _ _ _ (filsC_at m.files k _ (fileAt_get hk)).1]
    exact h1
  · exact own_move h.safe (fun i hi => set_other _ _ (blk_ne (h.apart.1 hfo).1 hi))
  · exact own_move h.steps (fun i hi => set_other _ _ (blk_ne (h.apart.1 hfo).2 hi))
theorem writeR_none (s t : ByteArray) (pp : RP w br m fv sv tv) (hl : m.find s.data.toList = none) (hi : Inv C m) (hC : C ≤ 100000000) :
    Calls Try.prog 33 #[.pointer (some ⟨br, 0, none⟩), .string s, .string t] w fun e w' => e = .returned (.int .i64 10) ∧ Below w.heap.size w w' := by
  have HF := Lib.hid (findR s pp hi hC)
  rw [hl] at HF
  clear pp hi hl
  go_enter Try.func33, Try.ntmps33
  go_wp2_with (first
    | (go_at_call 28; refine HF.out.mono ?_; rintro e w1 ⟨rfl, hb⟩; simp only [keyI])
    | go_in)
  go_ret
  exact ⟨rfl, hb⟩
/-- used, in whatever order with the room's load. -/
theorem used_any (pp : RP w br m fv sv tv) (hi : Inv C m) (hC : C ≤ 100000000) : ∀ W : World, Below w.heap.size w W → Calls Try.prog 51 #[.pointer (some ⟨br, 0, none⟩)] W fun e w' => e = .returned (.int .i64 (used m.files m.now : Nat)) ∧ Below W.heap.size W w' :=
  fun W hW => usedR (pp.below hW) hi hC
set_option maxRecDepth 100000 in
set_option maxHeartbeats 4000000 in
theorem writeR_full (s t : ByteArray) (k : Nat) (ht : t.size ≤ 1000000000) (pp : RP w br m fv sv tv) (hl : m.find s.data.toList = some k) (hr : m.room - (used m.files m.now : Int) < t.size) (hi : Inv C m) (hC : C ≤ 100000000) :
    Calls Try.prog 33 #[.pointer (some ⟨br, 0, none⟩), .string s, .string t] w fun e w' => e = .returned (.int .i64 12) ∧ Below w.heap.size w w' := by
  have HF := Lib.hid (findR s pp hi hC)
  rw [hl] at HF
  have PP := Lib.hid pp
  have hu1 := used_le hi m.now hi.now_key
  have hnl := hi.now_len
  have hr0 := hi.room0
  have hr1 := hi.room1
  have HU := Lib.hid (used_any pp hi hC)
  clear pp hl hi
  generalize used m.files m.now = u at *
  have hu2 : u ≤ 500000000000000 := by omega
  have hwr : IntKind.i64.wrap (m.room - (u : Int)) = m.room - (u : Int) := by rw [IntKind.wrap_i64]; omega
  clear hu1 hnl
  go_enter Try.func33, Try.ntmps33
  go_wp2_with (first
    | (go_at_call 28; refine HF.out.mono ?_; rintro e w1 ⟨rfl, hb⟩; simp only [keyI]; have HB := Lib.hid hb; have pp1 := PP.out.below hb; have c4 : w1.cell? ⟨br, 4, none⟩ = some (.int .i64 m.room) := cell_at pp1.top 4; clear hb pp1)
    | go_in)
  go_region_with (go_at_call 51; refine (HU.out _ HB.out.drew).mono ?_; rintro e w2 ⟨rfl, hb2⟩; have HB2 := Lib.hid (HB.out.drew.trans (hb2.mono HB.out.size)); have c42 : w2.cell? ⟨br, 4, none⟩ = some (.int .i64 m.room) := cell_at (PP.out.below HB2.out).top 4; clear hb2)
  all_goals
    go_wp2
    go_ret
    exact ⟨rfl, HB2.out⟩
set_option maxRecDepth 100000 in
set_option maxHeartbeats 4000000 in
theorem writeR_dead (s t : ByteArray) (k : Nat) (ht : t.size ≤ 1000000000) (pp : RP w br m fv sv tv) (hl : m.find s.data.toList = some k) (hr : ¬ m.room - (used m.files m.now : Int) < t.size) (hp : m.power = 0) (hi : Inv C m) (hC : C ≤ 100000000) :
    Calls Try.prog 33 #[.pointer (some ⟨br, 0, none⟩), .string s, .string t] w fun e w' => e = .returned (.int .i64 13) ∧ Below w.heap.size w w' := by
  have HF := Lib.hid (findR s pp hi hC)
  rw [hl] at HF
  have PP := Lib.hid pp
  have hu1 := used_le hi m.now hi.now_key
  have hnl := hi.now_len
  have hr0 := hi.room0
  have hr1 := hi.room1
  have HU := Lib.hid (used_any pp hi hC)
  clear pp hl hi
  generalize used m.files m.now = u at *
  have hu2 : u ≤ 500000000000000 := by omega
  have hwr : IntKind.i64.wrap (m.room - (u : Int)) = m.room - (u : Int) := by rw [IntKind.wrap_i64]; omega
  clear hu1 hnl
  go_enter Try.func33, Try.ntmps33
  go_wp2_with (first
    | (go_at_call 28; refine HF.out.mono ?_; rintro e w1 ⟨rfl, hb⟩; simp only [keyI]; have HB := Lib.hid hb; have pp1 := PP.out.below hb; have c4 : w1.cell? ⟨br, 4, none⟩ = some (.int .i64 m.room) := cell_at pp1.top 4; clear hb pp1)
    | go_in)
  go_region_with (go_at_call 51; refine (HU.out _ HB.out.drew).mono ?_; rintro e w2 ⟨rfl, hb2⟩; have HB2 := Lib.hid (HB.out.drew.trans (hb2.mono HB.out.size)); have c42 : w2.cell? ⟨br, 4, none⟩ = some (.int .i64 m.room) := cell_at (PP.out.below HB2.out).top 4; clear hb2)
  all_goals
    go_wp2_with (first
      | (go_at_call 30; refine (spendR_no (PP.out.below HB2.out) hp).mono ?_; rintro e w3 ⟨rfl, rfl⟩)
      | go_in)
    go_ret
    exact ⟨rfl, HB2.out⟩
set_option maxRecDepth 100000 in
set_option maxHeartbeats 4000000 in
theorem writeR_ok (s t : ByteArray) (k : Nat) (ht : t.size ≤ 1000000000) (pp : RP w br m fv sv tv) (hl : m.find s.data.toList = some k) (hr : ¬ m.room - (used m.files m.now : Int) < t.size) (hp : m.power ≠ 0) (hi : Inv C m) (hC : C ≤ 100000000) :
    Calls Try.prog 33 #[.pointer (some ⟨br, 0, none⟩), .string s, .string t] w fun e w' => e = .returned (.int .i64 0) ∧ RRes w w' br { m with files := m.files.set k ⟨(fileAt m.files k).safe, (fileAt m.files k).loose ++ t.data.toList⟩, power := spend m.power } fv sv tv := by
  have HF := Lib.hid (findR s pp hi hC)
  rw [hl] at HF
  have hk : k < m.files.length := hi.now_key _ (look_mem hl)
  have hk' : ((k : Int) < (m.files.length : Int)) := by omega
  obtain ⟨A0, fc, rfl⟩ := row_slice pp.files
  obtain ⟨g, rfl⟩ := row_at0 pp.files hk
  have PP := Lib.hid pp
  have HI := Lib.hid hi
  have hu1 := used_le hi m.now hi.now_key
  have hnl := hi.now_len
  have hr0 := hi.room0
  have hr1 := hi.room1
  have hsz := hi.size _ (fileAt_mem hk)
  have hlz : (mkB (fileAt m.files k).loose).size ≤ (fileAt m.files k).all.length := by
    rw [mkB_size]
    unfold Fil.all
    rw [List.length_append]
    omega
  have hcat : (mkB (fileAt m.files k).loose).size + t.size ≤ 9223372036854775807 := by omega
  have HCAT := Lib.hid (show mkB (fileAt m.files k).loose ++ t = mkB ((fileAt m.files k).loose ++ t.data.toList) by rw [← mkB_append, mkB_self])
  have HU := Lib.hid (used_any pp hi hC)
  have HG := Lib.hid (fun (w1 : World) (h : RP w1 br { m with power := spend m.power } (.slice (some ⟨g, 0, none⟩) m.files.length fc) sv tv) => And.intro (((h.files.cellAt (k * 2 + 1) (show k * 2 + 1 < m.files.length * 2 by omega)).trans (filsC_at m.files k _ (fileAt_get hk)).2)) (h.files.frozenAt (k * 2 + 1)))
  clear pp hl hi hsz hlz
  generalize used m.files m.now = u at *
  have hu2 : u ≤ 500000000000000 := by omega
  have hwr : IntKind.i64.wrap (m.room - (u : Int)) = m.room - (u : Int) := by rw [IntKind.wrap_i64]; omega
  clear hu1 hnl
  go_enter Try.func33, Try.ntmps33
  go_wp2_with (first
    | (go_at_call 28; refine HF.out.mono ?_; rintro e w1 ⟨rfl, hb⟩; simp only [keyI]; have HB := Lib.hid hb; have pp1 := PP.out.below hb; have c4 : w1.cell? ⟨br, 4, none⟩ = some (.int .i64 m.room) := cell_at pp1.top 4; clear hb pp1)
    | go_in)
  go_region_with (go_at_call 51; refine (HU.out _ HB.out.drew).mono ?_; rintro e w2 ⟨rfl, hb2⟩; have HB2 := Lib.hid (HB.out.drew.trans (hb2.mono HB.out.size)); have c42 : w2.cell? ⟨br, 4, none⟩ = some (.int .i64 m.room) := cell_at (PP.out.below HB2.out).top 4; clear hb2)
  all_goals
    go_wp2_with (first
      | (go_at_call 30; refine (spendR_ok (PP.out.below HB2.out) hp HI.out.pow0 HI.out.pow1).mono ?_; rintro e w3 ⟨rfl, pp3, ht3⟩; have PP3 := Lib.hid pp3; have T3 := Lib.hid ht3; have d0 : w3.cell? ⟨br, 0, none⟩ = some (.slice (some ⟨g, 0, none⟩) m.files.length fc) := cell_at pp3.top 0; obtain ⟨cG, yG⟩ := HG.out _ pp3; clear pp3 ht3)
      | go_in)
    go_region
    go_wp2
    go_ret
    have hfin := (RP.drew PP3.out).loose_set hk ((fileAt m.files k).loose ++ t.data.toList)
    refine ⟨rfl, RRes.ahead (RRes.tch ⟨_, _, _, ?_, ?_, fun _ h => .inl h⟩ T3.out) HB2.out⟩
    · rw [HCAT.out]
      exact hfin
    · exact (Tch.drew _ _).andSet _ (.inl (.inr (.inl rfl)))
theorem WriteR_calls (s t : ByteArray) (ht : t.size ≤ 1000000000) (hP : RPlate w br m F) (hi : Inv C m) (hC : C ≤ 100000000) :
    Calls Try.prog 33 #[.pointer (some ⟨br, 0, none⟩), .string s, .string t] w (RDone br F w (write m s.data.toList t.data.toList)) := by
  obtain ⟨fv, sv, tv, pp, hF⟩ := hP
  have hlt : t.size = t.data.toList.length := Lib.size_eq t
  cases hl : m.find s.data.toList with
  | none => exact (writeR_none s t pp hl hi hC).mono (RDone.same pp hF (by unfold write; rw [hl]))
  | some k =>
    by_cases hr : m.room - (used m.files m.now : Int) < t.size
    · exact (writeR_full s t k ht pp hl hr hi hC).mono (RDone.same pp hF (by unfold write; rw [hl]; simp only; rw [if_pos (by rw [← hlt]; exact hr)]))
    · have hr' : ¬ m.room - (used m.files m.now : Int) < t.data.toList.length := by rw [← hlt]; exact hr
      by_cases hp : m.power = 0
      · exact (writeR_dead s t k ht pp hl hr hp hi hC).mono (RDone.same pp hF (by unfold write; rw [hl]; simp only; rw [if_neg hr', if_pos hp]))
      · exact (writeR_ok s t k ht pp hl hr hp hi hC).mono (RDone.res hF (by unfold write; rw [hl]; simp only; rw [if_neg hr', if_neg hp]))
end
section
variable {w w' w1 : World} {br : Nat} {m m1 m' : Mach} {fv sv tv fv1 sv1 tv1 : Value} {F : Nat → Prop} {C : Nat} {r : Int × Mach} {n : Int}
theorem syncR_none (s : ByteArray) (pp : RP w br m fv sv tv) (hl : m.find s.data.toList = none) (hi : Inv C m) (hC : C ≤ 100000000) :
    Calls Try.prog 34 #[.pointer (some ⟨br, 0, none⟩), .string s] w fun e w' => e = .returned (.int .i64 10) ∧ Below w.heap.size w w' := by
  have HF := Lib.hid (findR s pp hi hC)
  rw [hl] at HF
  clear pp hi hl
  go_enter Try.func34, Try.ntmps34
  go_wp2_with (first
    | (go_at_call 28; refine HF.out.mono ?_; rintro e w1 ⟨rfl, hb⟩; simp only [keyI])
    | go_in)
  go_ret
  exact ⟨rfl, hb⟩
theorem syncR_dead (s : ByteArray) (k : Nat) (pp : RP w br m fv sv tv) (hl : m.find s.data.toList = some k) (hp : m.power = 0) (hi : Inv C m) (hC : C ≤ 100000000) :
    Calls Try.prog 34 #[.pointer (some ⟨br, 0, none⟩), .string s] w fun e w' => e = .returned (.int .i64 13) ∧ Below w.heap.size w w' := by
  have HF := Lib.hid (findR s pp hi hC)
  rw [hl] at HF
  have PP := Lib.hid pp
  clear pp hi hl
  go_enter Try.func34, Try.ntmps34
  go_wp2_with (first
    | (go_at_call 28; refine HF.out.mono ?_; rintro e w1 ⟨rfl, hb⟩; simp only [keyI]; have HB := Lib.hid hb; clear hb)
    | (go_at_call 30; refine (spendR_no (PP.out.below HB.out) hp).mono ?_; rintro e w2 ⟨rfl, rfl⟩)
    | go_in)
  go_ret
  exact ⟨rfl, HB.out⟩
set_option maxRecDepth 100000 in
set_option maxHeartbeats 4000000 in
theorem syncR_ok (s : ByteArray) (k : Nat) (pp : RP w br m fv sv tv) (hl : m.find s.data.toList = some k) (hp : m.power ≠ 0) (hi : Inv C m) (hC : C ≤ 100000000) :
    Calls Try.prog 34 #[.pointer (some ⟨br, 0, none⟩), .string s] w fun e w' => e = .returned (.int .i64 0) ∧ RRes w w' br { m with files := m.files.set k ⟨(fileAt m.files k).all, []⟩, power := spend m.power } fv sv tv := by
  have HF := Lib.hid (findR s pp hi hC)
  rw [hl] at HF
  have hk : k < m.files.length := hi.now_key _ (look_mem hl)
  have hk' : ((k : Int) < (m.files.length : Int)) := by omega
  obtain ⟨A0, fc, rfl⟩ := row_slice pp.files
  obtain ⟨g, rfl⟩ := row_at0 pp.files hk
  have hgb : br ≠ g := fun e => pp.br_ne.1 (by rw [e]; rfl)
  have hgb2 : g ≠ br := fun e => hgb e.symm
  have hr1 := hi.room1
  have hsz := hi.size _ (fileAt_mem hk)
  have hcat : (mkB (fileAt m.files k).safe).size + (mkB (fileAt m.files k).loose).size ≤ 9223372036854775807 := by
    rw [mkB_size, mkB_size, ← List.length_append]
    unfold Fil.all at hsz
    omega
  have HCAT := Lib.hid (mkB_append (fileAt m.files k).safe (fileAt m.files k).loose)
  have HG := Lib.hid (fun (w1 : World) (h : RP w1 br { m with power := spend m.power } (.slice (some ⟨g, 0, none⟩) m.files.length fc) sv tv) => And.intro (((h.files.cellAt (k * 2) (show k * 2 < m.files.length * 2 by omega)).trans (filsC_at m.files k _ (fileAt_get hk)).1)) (And.intro (((h.files.cellAt (k * 2 + 1) (show k * 2 + 1 < m.files.length * 2 by omega)).trans (filsC_at m.files k _ (fileAt_get hk)).2)) (And.intro (h.files.frozenAt (k * 2)) (h.files.frozenAt (k * 2 + 1)))))
  have PP := Lib.hid pp
  have HI := Lib.hid hi
  clear pp hl hi hsz
  go_enter Try.func34, Try.ntmps34
  go_wp2_with (first
    | (go_at_call 28; refine HF.out.mono ?_; rintro e w1 ⟨rfl, hb⟩; simp only [keyI]; have HB := Lib.hid hb; clear hb)
    | (go_at_call 30; refine (spendR_ok (PP.out.below HB.out) hp HI.out.pow0 HI.out.pow1).mono ?_; rintro e w3 ⟨rfl, pp3, ht3⟩; have PP3 := Lib.hid pp3; have T3 := Lib.hid ht3; have d0 : w3.cell? ⟨br, 0, none⟩ = some (.slice (some ⟨g, 0, none⟩) m.files.length fc) := cell_at pp3.top 0; obtain ⟨cF, cG, yF, yG⟩ := HG.out _ pp3; clear pp3 ht3)
    | go_in)
  go_region
  go_wp2
  go_ret
  have hfin := (RP.drew PP3.out).file_set hk ⟨(fileAt m.files k).all, []⟩
  refine ⟨rfl, RRes.ahead (RRes.tch ⟨_, _, _, ?_, ?_, fun _ h => .inl h⟩ T3.out) HB.out⟩
  · rw [HCAT.out]
    exact hfin
  · exact ((Tch.drew _ _).andSet _ (.inl (.inr (.inl rfl)))).andSet _ (.inl (.inr (.inl rfl)))
theorem SyncR_calls (s : ByteArray) (hP : RPlate w br m F) (hi : Inv C m) (hC : C ≤ 100000000) :
    Calls Try.prog 34 #[.pointer (some ⟨br, 0, none⟩), .string s] w (RDone br F w (sync m s.data.toList)) := by
  obtain ⟨fv, sv, tv, pp, hF⟩ := hP
  cases hl : m.find s.data.toList with
  | none => exact (syncR_none s pp hl hi hC).mono (RDone.same pp hF (by unfold sync; rw [hl]))
  | some k =>
    by_cases hp : m.power = 0
    · exact (syncR_dead s k pp hl hp hi hC).mono (RDone.same pp hF (by unfold sync; rw [hl]; simp only; rw [if_pos hp]))
    · exact (syncR_ok s k pp hl hp hi hC).mono (RDone.res hF (by unfold sync; rw [hl]; simp only; rw [if_neg hp]))
theorem newR_ok (room : Int) (w : World) (h0 : 0 ≤ room) (h1 : room ≤ 4194304) :
    Calls Try.prog 7 #[.int .i64 room] w fun e w' => ∃ br, e = .returned (.tuple #[.pointer (some ⟨br, 0, none⟩), .int .i64 0]) ∧ w.heap.size ≤ br ∧ RPlate w' br (fresh room) (fun i => w.heap.size ≤ i ∧ i < w'.heap.size) ∧ Below w.heap.size w w' := by
  have g0 : ¬ room < 0 := by omega
  have g1 : ¬ room > 4194304 := by omega
  go_enter Try.func7, Try.ntmps7
  go_wp2
  go_ret2
  have pp : RP (w.alloc (rtopC (.slice none 0 0) (.slice none 0 0) (.slice none 0 0) (-1) room)) w.heap.size (fresh room) (.slice none 0 0) (.slice none 0 0) (.slice none 0 0) :=
    ⟨alloc_new w _, World.ownsRow_nil _ _ _ _, World.ownsRow_nil _ _ _ _, World.ownsRow_nil _ _ _ _⟩
  refine ⟨w.heap.size, rfl, Nat.le_refl _, ⟨_, _, _, pp, fun i hi => ⟨?_, pp.lt hi⟩⟩, (Below.refl _ w).alloc (Nat.le_refl _) _⟩
  rcases hi with rfl | hi | hi | hi
  · exact Nat.le_refl _
  · cases hi
  · cases hi
  · cases hi
end
section
variable {w w' w1 : World} {br : Nat} {m m1 m' : Mach} {fv sv tv fv1 sv1 tv1 : Value} {F : Nat → Prop} {C : Nat} {r : Int × Mach} {n : Int}
theorem mkB_take (l : L) (n : Nat) : (mkB l).extract 0 n = mkB (l.take n) := by
  apply ByteArray.ext
  rw [ByteArray.data_extract]
  simp [mkB]
theorem clamp_int (x : Int) (n : Nat) : max (0 : Int) (min x (n : Int)) = ((clamp x n : Nat) : Int) := by unfold clamp; omega
theorem clamp_le (x : Int) (n : Nat) : clamp x n ≤ n := by unfold clamp; omega
/-- Files of which the first i are cut. -/
def CutTo (fs gs : List Fil) (b : Int) (i : Nat) : Prop := gs.length = fs.length ∧ ∀ j, j < fs.length → fileAt gs j = if j < i then cutF b (fileAt fs j) else fileAt fs j
theorem CutTo.zero (fs : List Fil) (b : Int) : CutTo fs fs b 0 := ⟨rfl, fun j _ => by rw [if_neg (Nat.not_lt_zero j)]⟩
theorem CutTo.step {fs gs : List Fil} {b : Int} {i : Nat} (h : CutTo fs gs b i) (hi : i < fs.length) : CutTo fs (gs.set i (cutF b (fileAt fs i))) b (i + 1) := by
  refine ⟨by rw [List.length_set]; exact h.1, fun j hj => ?_⟩
  by_cases e : i = j
  · subst e
    rw [fileAt_same (by rw [h.1]; exact hi), if_pos zb6]
  · rw [fileAt_set e, h.2 j hj]
    by_cases e2 : j < i
    · rw [if_pos e2, if_pos zb6]
    · rw [if_neg e2, if_neg zb6]
theorem CutTo.done {fs gs : List Fil} {b : Int} (h : CutTo fs gs b fs.length) : gs = fs.map (cutF b) := by
  refine List.ext_getElem (by rw [h.1, List.length_map]) (fun j h1 h2 => ?_)
  have hj : j < fs.length := by rw [← h.1]; exact h1
  have h3 := h.2 j hj
  rw [if_pos hj] at h3
  rw [List.getElem_map]
  have e1 := fileAt_get h1
  rw [List.getElem?_eq_getElem h1] at e1
  have e2 := fileAt_get hj
  rw [List.getElem?_eq_getElem hj] at e2
  rw [Option.some.inj e1, Option.some.inj e2, h3]
set_option maxRecDepth 100000 in
set_option maxHeartbeats 8000000 in
theorem crashR (steps bytes : Int) (pp : RP w br m fv sv tv) (hi : Inv C m) (hC : C ≤ 100000000) :
    Calls Try.prog 41 #[.pointer (some ⟨br, 0, none⟩), .int .i64 steps, .int .i64 bytes] w fun e w' => e = .returned (.tuple #[]) ∧ RRes w w' br (crash m steps bytes) fv sv tv := by
  obtain ⟨T, tc, rfl⟩ := row_slice pp.steps
  have d2 : w.cell? ⟨br, 2, none⟩ = some (.slice T m.steps.length tc) := cell_at pp.top 2
  have hn := nowR (clamp steps m.steps.length) pp hi.sorted (clamp_le _ _) (Nat.le_trans hi.count hC)
  rw [← clamp_int] at hn
  have HN := Lib.hid hn
  have PP := Lib.hid pp
  have HI := Lib.hid hi
  have hmany := hi.many
  clear pp hi hn
  go_enter Try.func41, Try.ntmps41
  go_wp2_with (first
    | (go_at_call 29; refine HN.out.mono ?_; rintro e w2 ⟨v, rfl, hrow, hv, hb⟩; have HR := Lib.hid hrow; have HV := Lib.hid hv; have HB := Lib.hid hb; have pp2 := PP.out.below hb; obtain ⟨A, c, rfl⟩ := row_slice hrow; have k1 : w2.cell? ⟨br, 1, none⟩ = some sv := cell_at pp2.top 1; have y1 : w2.frozen? ⟨br, 1, none⟩ = false := melt_at pp2.top 1; have k2 : w2.cell? ⟨br, 2, none⟩ = some (.slice T m.steps.length tc) := cell_at pp2.top 2; have y2 : w2.frozen? ⟨br, 2, none⟩ = false := melt_at pp2.top 2; clear hrow hv hb pp2)
    | go_in)
  obtain ⟨fv1, sv1, tv1, pp1, ht1, hf1⟩ := PP.out.settled HB.out HR.out HV.out
  have HT1 := Lib.hid ht1
  have HF1 := Lib.hid hf1
  obtain ⟨D, hD⟩ : ∃ D, D = after m.safe (m.steps.take (clamp steps m.steps.length)) := ⟨_, rfl⟩
  have HD := Lib.hid hD
  generalize (w2.setCell ⟨br, 1, none⟩ (.slice A (after m.safe (m.steps.take (clamp steps m.steps.length))).length c)).setCell ⟨br, 2, none⟩ (.slice none 0 0) = w4 at *
  rw [← HD.out] at pp1
  have PP1 := Lib.hid pp1
  clear ht1 hf1 pp1 hD
  go_loopw [6, 7] (fun v6 _ wr => ∃ (i : Nat) (gs : List Fil), v6 = Value.int .i64 (i : Int) ∧ i ≤ m.files.length ∧ CutTo m.files gs bytes i ∧ RP wr br { m with files := gs, safe := D, steps := [] } fv1 sv1 tv1 ∧ Tch (rfoot br fv1 sv1 tv1) w4 wr)
    (fun v6 _ _ => m.files.length - (intOf v6).toNat)
  case atStart => exact ⟨0, m.files, rfl, Nat.zero_le _, CutTo.zero _ _, PP1.out, Tch.refl _ _⟩
  case round =>
    obtain ⟨i, gs, rfl, hil, hcut, ppr, htr⟩ := hrel
    have hrl : br < wr.heap.size := blk_lt ppr.top
    obtain ⟨A0, fc, rfl⟩ := row_slice ppr.files
    have d0 : wr.cell? ⟨br, 0, none⟩ = some (.slice A0 gs.length fc) := cell_at ppr.top 0
    rw [hcut.1] at d0
    by_cases hlt : i < m.files.length
    · have hdec : ((i : Int) < (m.files.length : Int)) := by omega
      have hig : i < gs.length := by rw [hcut.1]; exact hlt
      obtain ⟨g, rfl⟩ := row_at0 ppr.files hig
      have hfi : fileAt gs i = fileAt m.files i := by rw [hcut.2 i hlt, if_neg (Nat.lt_irrefl i)]
      have cF := (ppr.files.cellAt (i * 2) (show i * 2 < gs.length * 2 by omega)).trans (filsC_at gs i _ (fileAt_get hig)).1
      have cG := (ppr.files.cellAt (i * 2 + 1) (show i * 2 + 1 < gs.length * 2 by omega)).trans (filsC_at gs i _ (fileAt_get hig)).2
      have yF := ppr.files.frozenAt (i * 2)
      have yG := ppr.files.frozenAt (i * 2 + 1)
      rw [hfi] at cF cG
      have hgl : g < wr.heap.size := by obtain ⟨_, e⟩ := row_block ppr.files (k := g) rfl; exact blk_lt e
      have hgb : br ≠ g := fun e => ppr.br_ne.1 (by rw [e]; rfl)
      have hgb2 : g ≠ br := fun e => hgb e.symm
      have b0 : ¬ br = wr.heap.size := by omega
      have b1 : ¬ wr.heap.size = br := by omega
      have b2 : ¬ g = wr.heap.size := by omega
      have b3 : ¬ wr.heap.size = g := by omega
      have hsz := HI.out.size _ (fileAt_mem hlt)
      have hr1 := HI.out.room1
      have hs1 : (mkB (fileAt m.files i).safe).size + (mkB (fileAt m.files i).loose).size = (fileAt m.files i).all.length := by
        rw [mkB_size, mkB_size]
        unfold Fil.all
        rw [List.length_append]
      obtain ⟨N, hN⟩ : ∃ N, N = clamp bytes (fileAt m.files i).loose.length := ⟨_, rfl⟩
      have hm0 : max (0 : Int) (min bytes ((mkB (fileAt m.files i).loose).size : Int)) = (N : Int) := by rw [mkB_size, clamp_int, hN]
      have hNle : N ≤ (mkB (fileAt m.files i).loose).size := by rw [mkB_size, hN]; exact clamp_le _ _
      have hNle2 : ((N : Int) ≤ ((mkB (fileAt m.files i).loose).size : Int)) := by omega
      have HCAT := Lib.hid (show mkB (fileAt m.files i).safe ++ (mkB (fileAt m.files i).loose).extract 0 N = mkB (cutF bytes (fileAt m.files i)).safe by rw [mkB_take, mkB_append, hN]; rfl)
      have hfin := ((ppr.file_set hig (cutF bytes (fileAt m.files i))).alloc (.cells #[.string (mkB (fileAt m.files i).safe), .string (mkB (fileAt m.files i).loose)] 74)).drew
      rw [← HCAT.out] at hfin
      have hex : ((mkB (fileAt m.files i).loose).extract 0 N).size ≤ (mkB (fileAt m.files i).loose).size := by rw [ByteArray.size_extract]; omega
      have HTR := Lib.hid htr
      have HFIN := Lib.hid hfin
      have HCUT := Lib.hid hcut
      generalize mkB (fileAt m.files i).safe = fs at *
      generalize mkB (fileAt m.files i).loose = fl at *
      have hcat : fs.size + (fl.extract 0 N).size ≤ 9223372036854775807 := by omega
      have hlw : fl.size ≤ 9223372036854775807 := by omega
      clear ppr hcut htr hfin hN hsz hr1 hs1 hfi hig
      go_wp2
      go_region
      go_wp2
      go_roundw
      case rel =>
        refine ⟨i + 1, _, by push_cast; rfl, by omega, HCUT.out.step hlt, ?_, ?_⟩
        · exact HFIN.out
        · exact ((Tch.andSet (p := ⟨g, i * 2 + 1, none⟩) (Tch.andSet (p := ⟨g, i * 2, none⟩) HTR.out _ (.inl (.inr (.inl rfl)))) _ (.inl (.inr (.inl rfl)))).andAlloc _).drewA
      case measure =>
        show m.files.length - ((i : Int) + 1).toNat < m.files.length - (i : Int).toNat
        omega
    · have hdec : ¬ ((i : Int) < (m.files.length : Int)) := by omega
      have hil2 : i = m.files.length := by omega
      subst hil2
      have e := hcut.done
      have d3 : wr.cell? ⟨br, 3, none⟩ = some (.int .i64 m.power) := cell_at ppr.top 3
      have y3 : wr.frozen? ⟨br, 3, none⟩ = false := melt_at ppr.top 3
      have HFIN := Lib.hid (ppr.power (-1))
      have HTR := Lib.hid htr
      have HE := Lib.hid e
      clear ppr hcut htr e
      go_wp2
      go_end0
      refine ⟨rfl, RRes.next HT1.out HF1.out ⟨_, _, _, ?_, HTR.out.andSet _ (.inl (.inl rfl)), fun _ h => .inl h⟩⟩
      rw [crash_eq, ← HE.out, ← HD.out]
      exact HFIN.out
theorem CrashR_calls (a b : Int) (hP : RPlate w br m F) (hi : Inv C m) (hC : C ≤ 100000000) :
    Calls Try.prog 41 #[.pointer (some ⟨br, 0, none⟩), .int .i64 a, .int .i64 b] w fun e w' => e = .returned (.tuple #[]) ∧ RPlate w' br (crash m a b) (grow F w w') ∧ Tch F w w' := by
  obtain ⟨fv, sv, tv, pp, hF⟩ := hP
  refine (crashR a b pp hi hC).mono ?_
  rintro e w' ⟨he, hr⟩
  exact ⟨he, hr.plate hF⟩
theorem ReadR_calls (s : ByteArray) (hP : RPlate w br m F) (hi : Inv C m) (hC : C ≤ 100000000) :
    Calls Try.prog 32 #[.pointer (some ⟨br, 0, none⟩), .string s] w fun e w' => e = .returned (.tuple #[.string (mkB (read m s.data.toList).1), .int .i64 (read m s.data.toList).2]) ∧ RPlate w' br m F ∧ Below w.heap.size w w' := by
  obtain ⟨fv, sv, tv, pp, hF⟩ := hP
  refine (readR s pp hi hC).mono ?_
  rintro e w' ⟨he, hb⟩
  exact ⟨he, ⟨fv, sv, tv, pp.below hb, hF⟩, hb⟩
theorem ListR_calls (hP : RPlate w br m F) (hi : Inv C m) (hC : C ≤ 100000000) :
    Calls Try.prog 31 #[.pointer (some ⟨br, 0, none⟩)] w fun e w' => ∃ v, e = .returned v ∧ w'.ownsRow w.heap.size 9 1 v m.now.length ((list m).map fun n => Value.string (mkB n)) ∧ RPlate w' br m F ∧ Below w.heap.size w w' := by
  obtain ⟨fv, sv, tv, pp, hF⟩ := hP
  refine (listR pp hi hC).mono ?_
  rintro e w' ⟨v, he, ho, hb⟩
  exact ⟨v, he, ho, ⟨fv, sv, tv, pp.below hb, hF⟩, hb⟩
end
end Go.Proofs.Ytblmjnknagpacaa.Pl
/- Px55 -/
namespace Go.Proofs.Ytblmjnknagpacaa.P
open Go.Proofs.Ytblmjnknagpacaa.B
open Go.RowKit Go.Proofs.YtblmjnknagpacaaW.PrintWords Go.Proofs.YtblmjnknagpacaaW.PrintLast Go.Proofs.YtblmjnknagpacaaW.PrintMore
attribute [local go_sem] run_store_float str_leq str_gtr str_geq max2_int min2_int max_two min_two max_three min_three max_four min_four
set_option linter.unusedVariables false
set_option linter.unusedSimpArgs false
def broadsheetlaw01_SameTexts.l0 : Nat → List ByteArray → List ByteArray → Int → Option (Bool)
  | 0, _, _, _ => none
  | k + 1, x0, x1, x5 => if x5 < (x0.length : Int) then (if 0 ≤ x5 then (if x5 < (x1.length : Int) then (if (rdOf ByteArray.empty x0 x5).toList = (rdOf ByteArray.empty x1 x5).toList then (broadsheetlaw01_SameTexts.l0 k x0 x1 (wrap64 (x5 + 1))) else (some false)) else (none)) else (none)) else (some true)
def broadsheetlaw01_SameTexts.f (k : Nat) (l0 : List ByteArray) (l1 : List ByteArray) : Option (Bool) := if (l0.length : Int) = (l1.length : Int) then (broadsheetlaw01_SameTexts.l0 k l0 l1 0) else (some false)
set_option maxHeartbeats 8000000 in
set_option maxRecDepth 100000 in
theorem broadsheetlaw01_SameTexts.calls (k : Nat) (A0 : Option Addr) (c0 : Nat) (l0 : List ByteArray) (A1 : Option Addr) (c1 : Nat) (l1 : List ByteArray) (r : Bool) (w : World) (hr0 : Kd.C Kd.string w A0 l0.length l0) (hc0 : l0.length ≤ c0) (hr1 : Kd.C Kd.string w A1 l1.length l1) (hc1 : l1.length ≤ c1) (h : broadsheetlaw01_SameTexts.f k l0 l1 = some r) :
  Calls Try.prog 21 #[.slice A0 l0.length c0, .slice A1 l1.length c1] w fun e w' => e = .returned (.bool r) ∧ Drawn0 w w' := by
 have HR0 := Aside0.mk hr0
 have HC0 := Aside0.mk hc0
 clear hr0 hc0
 have HR1 := Aside0.mk hr1
 have HC1 := Aside0.mk hc1
 clear hr1 hc1
 have H : (if (l0.length : Int) = (l1.length : Int) then (broadsheetlaw01_SameTexts.l0 k l0 l1 0) else (some false)) = some r := h
 clear h
 by_cases c3 : (l0.length : Int) = (l1.length : Int)
 ·rw [if_pos c3] at H
  have c3b0 : ((l0.length : Int) == (l1.length : Int)) = true := beq_iff_eq.mpr c3
  have c3b1 : ((l0.length : Int) != (l1.length : Int)) = false := bne_eq_false_iff_eq.mpr c3
  have c3b2 : (l0.length == l1.length) = true := by first | simpa using c3 | (simp at c3 ⊢; omega)
  clear c3
  have H' := Aside0.mk H
  clear H
  go_enter Try.func21, Try.ntmps21
  go_wp2
  repeat (go_quiet (fail); try go_wp2)
  first | go_loopg [5] k (fun kq v5 w' => ∃ (x5_1 : Int), v5 = .int .i64 x5_1 ∧ Aside0 (broadsheetlaw01_SameTexts.l0 kq l0 l1 x5_1 = some r) ∧ Aside0 (kq ≤ k) ∧ Drawn0 w w') | (go_simp; go_loopg [5] k (fun kq v5 w' => ∃ (x5_1 : Int), v5 = .int .i64 x5_1 ∧ Aside0 (broadsheetlaw01_SameTexts.l0 kq l0 l1 x5_1 = some r) ∧ Aside0 (kq ≤ k) ∧ Drawn0 w w'))
  case atStart => exact ⟨(0), zb5, H', ⟨Nat.le_refl _⟩, by repeat (first | exact Drawn0.refl _ | apply Drawn0.step)⟩
  case round =>
   clear H'
   try clear c1
   try clear c2
   try clear p2
   try clear c3
   try clear c3b0
   try clear c3b1
   try clear c3b2
   obtain ⟨x5_1, rfl, HA, HK1, ⟨m1, rfl⟩⟩ := hrel
   cases gk with
   | zero => exact absurd HA.out (by simp [broadsheetlaw01_SameTexts.l0])
   | succ k1 =>
    have H := HA.out
    clear HA
    simp only [broadsheetlaw01_SameTexts.l0] at H
    by_cases c4 : x5_1 < (l0.length : Int)
    ·rw [if_pos c4] at H
     have c4b0 : decide (x5_1 < (l0.length : Int)) = true := decide_eq_true c4
     clear c4
     by_cases c5 : 0 ≤ x5_1
     ·rw [if_pos c5] at H
      have c5b0 : decide (0 ≤ x5_1) = true := decide_eq_true c5
      clear c5
      by_cases c6 : x5_1 < (l1.length : Int)
      ·rw [if_pos c6] at H
       have c6b0 : decide (x5_1 < (l1.length : Int)) = true := decide_eq_true c6
       clear c6
       by_cases c7 : (rdOf ByteArray.empty l0 x5_1).toList = (rdOf ByteArray.empty l1 x5_1).toList
       ·rw [if_pos c7] at H
        have c7b0 : ((rdOf ByteArray.empty l0 x5_1).toList == (rdOf ByteArray.empty l1 x5_1).toList) = true := beq_iff_eq.mpr c7
        have c7b1 : ((rdOf ByteArray.empty l0 x5_1).toList != (rdOf ByteArray.empty l1 x5_1).toList) = false := bne_eq_false_iff_eq.mpr c7
        clear c7
        have H' := Aside0.mk H
        clear H
        have p241 : 0 ≤ (x5_1 : Int) := of_decide_eq_true zb1
        have q241 : x5_1 < (l0.length : Int) := of_decide_eq_true zb1
        obtain ⟨ad241, e241, hx241_0⟩ := Kd.at_string HR0.out x5_1 p241 q241
        cases e241
        replace p241 := eq_true p241
        replace q241 := eq_true q241
        have p242 : 0 ≤ (x5_1 : Int) := of_decide_eq_true zb1
        have q242 : x5_1 < (l1.length : Int) := of_decide_eq_true zb1
        obtain ⟨ad242, e242, hx242_0⟩ := Kd.at_string HR1.out x5_1 p242 q242
        cases e242
        replace p242 := eq_true p242
        replace q242 := eq_true q242
        go_wp2
        repeat (go_quiet (fail); try go_wp2)
        go_roundg k1
        case measure => have := HK1.out; omega
        case rel => exact ⟨(wrap64 (x5_1 + 1)), zb5, H', ⟨by have := HK1.out; omega⟩, by repeat (first | exact Drawn0.refl _ | apply Drawn0.step)⟩
       ·rw [if_neg c7] at H
        have c7b0 : ((rdOf ByteArray.empty l0 x5_1).toList == (rdOf ByteArray.empty l1 x5_1).toList) = false := beq_eq_false_iff_ne.mpr c7
        have c7b1 : ((rdOf ByteArray.empty l0 x5_1).toList != (rdOf ByteArray.empty l1 x5_1).toList) = true := bne_iff_ne.mpr c7
        obtain rfl := Option.some.inj H
        have p241 : 0 ≤ (x5_1 : Int) := of_decide_eq_true zb1
        have q241 : x5_1 < (l0.length : Int) := of_decide_eq_true zb1
        obtain ⟨ad241, e241, hx241_0⟩ := Kd.at_string HR0.out x5_1 p241 q241
        cases e241
        replace p241 := eq_true p241
        replace q241 := eq_true q241
        have p242 : 0 ≤ (x5_1 : Int) := of_decide_eq_true zb1
        have q242 : x5_1 < (l1.length : Int) := of_decide_eq_true zb1
        obtain ⟨ad242, e242, hx242_0⟩ := Kd.at_string HR1.out x5_1 p242 q242
        cases e242
        replace p242 := eq_true p242
        replace q242 := eq_true q242
        go_wp2
        repeat (go_quiet (fail); try go_wp2)
        go_ret
        exact ⟨by first | rfl | (simp; done) | (simp [*]; done), by repeat (first | exact Drawn0.refl _ | apply Drawn0.step)⟩
      ·rw [if_neg c6] at H
       exact absurd H (by simp)
     ·rw [if_neg c5] at H
      exact absurd H (by simp)
    ·rw [if_neg c4] at H
     have c4b0 : decide (x5_1 < (l0.length : Int)) = false := decide_eq_false c4
     clear c4
     obtain rfl := Option.some.inj H
     go_wp2
     repeat (go_quiet (fail); try go_wp2)
     go_ret
     exact ⟨by first | rfl | (simp; done) | (simp [*]; done), by repeat (first | exact Drawn0.refl _ | apply Drawn0.step)⟩
 ·rw [if_neg c3] at H
  have c3b0 : ((l0.length : Int) == (l1.length : Int)) = false := beq_eq_false_iff_ne.mpr c3
  have c3b1 : ((l0.length : Int) != (l1.length : Int)) = true := bne_iff_ne.mpr c3
  have c3b2 : (l0.length == l1.length) = false := by first | simpa using c3 | (simp at c3 ⊢; omega)
  obtain rfl := Option.some.inj H
  go_enter Try.func21, Try.ntmps21
  go_wp2
  repeat (go_quiet (fail); try go_wp2)
  go_ret
  exact ⟨by first | rfl | (simp; done) | (simp [*]; done), by repeat (first | exact Drawn0.refl _ | apply Drawn0.step)⟩
end Go.Proofs.Ytblmjnknagpacaa.P
/- PlSa -/
namespace Go.Proofs.Ytblmjnknagpacaa.Pl
open Go Go.RowKit Go.Maps Go.Proofs.YtblmjnknagpacaaW.PrintWords
set_option linter.unusedVariables false
set_option linter.unusedSimpArgs false
/-- Both plates, apart, read as machines; they lie in blocks of H. -/
def Two (w : World) (bp br : Nat) (m mr : Mach) (H : Nat → Prop) : Prop := ∃ F G, Plate w bp m F ∧ RPlate w br mr G ∧ (∀ i, F i → ¬ G i) ∧ (∀ i, F i ∨ G i → H i) ∧ ∀ i, H i → i < w.heap.size
section
variable {w w' w0 w1 w2 w3 : World} {bp br : Nat} {m m' mr mr' : Mach} {F G H : Nat → Prop} {C : Nat}
theorem Two.move (h : Two w bp br m mr H) (hs : w.heap.size ≤ w'.heap.size) (hm : ∀ i, H i → w'.heap[i]? = w.heap[i]?) : Two w' bp br m mr H := by
  obtain ⟨F, G, hp, hr, hd, hF, hH⟩ := h
  exact ⟨F, G, hp.move (fun i hi _ => hm i (hF i (.inl hi))), hr.move (fun i hi _ => hm i (hF i (.inr hi))), hd, hF, fun i hi => Nat.lt_of_lt_of_le (hH i hi) hs⟩
theorem Two.tch (h : Two w bp br m mr H) {X : Nat → Prop} (ht : Tch X w w') (hX : ∀ i, H i → ¬ X i) : Two w' bp br m mr H := by
  have hb := h
  obtain ⟨F, G, _, _, _, _, hH⟩ := hb
  exact h.move ht.size (fun i hi => ht.block i (hH i hi) (hX i hi))
theorem Two.below (h : Two w bp br m mr H) (hb : Below w.heap.size w w') : Two w' bp br m mr H := h.tch (X := fun _ => False) (Tch.of_below hb) (fun _ _ h => h)
theorem Two.widen {K : Nat → Prop} (h : Two w bp br m mr H) (hK : ∀ i, H i → K i) (hlt : ∀ i, K i → i < w.heap.size) : Two w bp br m mr K := by
  obtain ⟨F, G, hp, hr, hd, hF, hH⟩ := h
  exact ⟨F, G, hp, hr, hd, fun i hi => hK i (hF i hi), hlt⟩
/-- What is neither plate's stays. -/
theorem Plate.next (h : Plate w bp m F) {X : Nat → Prop} (ht : Tch X w w') (hX : ∀ i, F i → i < w.heap.size → ¬ X i) : Plate w' bp m F := h.move (fun i hi hl => ht.block i hl (hX i hi hl))
theorem RPlate.next (h : RPlate w br m F) {X : Nat → Prop} (ht : Tch X w w') (hX : ∀ i, F i → i < w.heap.size → ¬ X i) : RPlate w' br m F := h.move (fun i hi hl => ht.block i hl (hX i hi hl))
/-- Both have done the same. -/
theorem two_done (hd : ∀ i, F i → ¬ G i) (hF : ∀ i, F i ∨ G i → H i) (hH : ∀ i, H i → i < w.heap.size) (t0 : Tch (fun _ => False) w w0)
    (hp : Plate w1 bp m' (grow F w0 w1)) (t1 : Tch F w0 w1) (t2 : Tch (fun _ => False) w1 w2) (hr : RPlate w3 br mr' (grow G w2 w3)) (t3 : Tch G w2 w3) :
    Two w3 bp br m' mr' (grow H w w3) ∧ Tch H w w3 := by
  have s0 := t0.size
  have s1 := t1.size
  have s2 := t2.size
  have s3 := t3.size
  have hFl : ∀ i, F i → i < w.heap.size := fun i hi => hH i (hF i (.inl hi))
  have hGl : ∀ i, G i → i < w.heap.size := fun i hi => hH i (hF i (.inr hi))
  have hp2 : Plate w3 bp m' (grow F w0 w1) := by
    refine (hp.next t2 (fun _ _ _ h => h)).next t3 (fun i hi hl hg => ?_)
    rcases hi with hi | ⟨hi, _⟩
    · exact hd i hi hg
    · have := hGl i hg
      omega
  refine ⟨⟨grow F w0 w1, grow G w2 w3, hp2, hr, fun i hi hg => ?_, fun i hi => ?_, fun i hi => ?_⟩, ?_⟩
  · rcases hi with hi | ⟨h1, h2⟩
    · rcases hg with hg | ⟨g1, g2⟩
      · exact hd i hi hg
      · have := hFl i hi
        omega
    · rcases hg with hg | ⟨g1, g2⟩
      · have := hGl i hg
        omega
      · omega
  · rcases hi with (hi | ⟨h1, h2⟩) | (hi | ⟨h1, h2⟩)
    · exact .inl (hF i (.inl hi))
    · exact .inr ⟨by omega, by omega⟩
    · exact .inl (hF i (.inr hi))
    · exact .inr ⟨by omega, by omega⟩
  · rcases hi with hi | ⟨h1, h2⟩
    · have := hH i hi
      omega
    · exact h2
  · have ta : Tch H w w1 := (t0.mono (fun _ h _ => h.elim)).trans (t1.mono (fun i hi _ => hF i (.inl hi))) (fun k hk => .inl hk)
    have tb : Tch H w w2 := ta.trans t2 (fun _ h => h.elim)
    exact tb.trans (t3.mono (fun i hi _ => hF i (.inr hi))) (fun k hk => .inl hk)
/-- The plate alone acts, or is made: the other's blocks stay. -/
theorem Two.same (h : Two w bp br m mr H) (ht : Tch (fun _ => False) w w') : Two w' bp br m mr (grow H w w') ∧ Tch H w w' := by
  have h1 := h.tch ht (fun _ _ h => h)
  obtain ⟨F, G, _, _, _, _, hH⟩ := h
  exact ⟨h1.widen (fun i hi => .inl hi) (fun i hi => hi.elim (fun h => Nat.lt_of_lt_of_le (hH i h) ht.size) (fun h => h.2)), ht.mono (fun _ h _ => h.elim)⟩
end
theorem Two.parts {w : World} {bp br : Nat} {m mr : Mach} {H : Nat → Prop} (h : Two w bp br m mr H) : ∃ F G, Plate w bp m F ∧ RPlate w br mr G := by
  obtain ⟨F, G, hp, hr, _⟩ := h
  exact ⟨F, G, hp, hr⟩
theorem same_loop (xs : List ByteArray) (hx : xs.length < 1000000000) : ∀ (j i : Nat), i + j = xs.length → P.broadsheetlaw01_SameTexts.l0 (j + 1) xs xs (i : Int) = some true
  | 0, i, h => by
    unfold P.broadsheetlaw01_SameTexts.l0
    rw [if_neg zb6]
  | j + 1, i, h => by
    have hw : wrap64 ((i : Int) + 1) = ((i + 1 : Nat) : Int) := by
      rw [show (i : Int) + 1 = ((i + 1 : Nat) : Int) by omega]
      exact wrap_nat _ zb6
    unfold P.broadsheetlaw01_SameTexts.l0
    rw [if_pos zb6, if_pos zb6, if_pos zb6, if_pos rfl, hw]
    exact same_loop xs hx j (i + 1) zb6
theorem texts_row {w : World} {base : Nat} {v : Value} {xs : List ByteArray} (h : w.ownsRow base 9 1 v xs.length (xs.map Value.string)) : ∃ A c, v = .slice A xs.length c ∧ xs.length ≤ c ∧ Kd.C Kd.string w A xs.length xs := by
  have hr : Reps (Kd.string.K w) 1 xs (xs.map Value.string) := by
    refine ⟨by rw [List.length_map]; omega, fun j p hj => ?_⟩
    have hl := (List.getElem?_eq_some_iff.1 hj).1
    have e : ((xs.map Value.string).drop (j * 1)).take 1 = [Value.string p] := by
      rw [Nat.mul_one, List.drop_eq_getElem_cons (by rw [List.length_map]; exact hl), List.getElem_map, (List.getElem?_eq_some_iff.1 hj).2]
      rfl
    rw [e]
    rfl
  obtain ⟨A, c, rfl, hc⟩ := own_reads_row h hr rfl
  exact ⟨A, c, rfl, row_cap h, hc⟩
theorem same_texts {w : World} {b1 b2 : Nat} {v1 v2 : Value} (ns : List L) (hn : ns.length < 1000000000) (h1 : w.ownsRow b1 9 1 v1 ns.length (ns.map fun n => Value.string (mkB n))) (h2 : w.ownsRow b2 9 1 v2 ns.length (ns.map fun n => Value.string (mkB n))) :
    Calls Try.prog 21 #[v1, v2] w fun e w' => e = .returned (.bool true) ∧ Below w.heap.size w w' := by
  have hm : (ns.map fun n => Value.string (mkB n)) = (ns.map mkB).map Value.string := by rw [List.map_map]; rfl
  have hl : (ns.map mkB).length = ns.length := List.length_map _
  rw [hm, ← hl] at h1 h2
  obtain ⟨A1, c1, rfl, k1, r1⟩ := texts_row h1
  obtain ⟨A2, c2, rfl, k2, r2⟩ := texts_row h2
  have hf : P.broadsheetlaw01_SameTexts.f ((ns.map mkB).length + 1) (ns.map mkB) (ns.map mkB) = some true := by
    unfold P.broadsheetlaw01_SameTexts.f
    rw [if_pos rfl]
    exact same_loop _ (by rw [hl]; exact hn) _ 0 zb6
  refine (P.broadsheetlaw01_SameTexts.calls _ A1 c1 _ A2 c2 _ true w r1 k1 r2 k2 hf).mono ?_
  rintro e w' ⟨he, hd⟩
  exact ⟨he, hd.below⟩
/-- Whatever two lists: they are compared. -/
theorem any_loop (xs ys : List ByteArray) (hx : xs.length < 1000000000) (hl : ys.length = xs.length) : ∀ (j i : Nat), i + j = xs.length → ∃ b, P.broadsheetlaw01_SameTexts.l0 (j + 1) xs ys (i : Int) = some b
  | 0, i, h => by
    refine ⟨true, ?_⟩
    unfold P.broadsheetlaw01_SameTexts.l0
    rw [if_neg zb6]
  | j + 1, i, h => by
    have hw : wrap64 ((i : Int) + 1) = ((i + 1 : Nat) : Int) := by
      rw [show (i : Int) + 1 = ((i + 1 : Nat) : Int) by omega]
      exact wrap_nat _ zb6
    obtain ⟨b, hb⟩ := any_loop xs ys hx hl j (i + 1) zb6
    unfold P.broadsheetlaw01_SameTexts.l0
    rw [if_pos zb6, if_pos zb6, if_pos zb6, hw, hb]
    split
    · exact ⟨b, rfl⟩
    · exact ⟨false, rfl⟩
theorem any_texts {w : World} {b1 b2 : Nat} {v1 v2 : Value} (ns ms : List L) (hn : ns.length < 1000000000) (h1 : w.ownsRow b1 9 1 v1 ns.length (ns.map fun n => Value.string (mkB n))) (h2 : w.ownsRow b2 9 1 v2 ms.length (ms.map fun n => Value.string (mkB n))) :
    Calls Try.prog 21 #[v1, v2] w fun e w' => ∃ b, e = .returned (.bool b) ∧ Below w.heap.size w w' := by
  have hm : ∀ l : List L, (l.map fun n => Value.string (mkB n)) = (l.map mkB).map Value.string := fun l => by rw [List.map_map]; rfl
  have hl : ∀ l : List L, (l.map mkB).length = l.length := fun l => List.length_map _
  rw [hm, ← hl] at h1 h2
  obtain ⟨A1, c1, rfl, k1, r1⟩ := texts_row h1
  obtain ⟨A2, c2, rfl, k2, r2⟩ := texts_row h2
  obtain ⟨b, hf⟩ : ∃ b, P.broadsheetlaw01_SameTexts.f ((ns.map mkB).length + 1) (ns.map mkB) (ms.map mkB) = some b := by
    unfold P.broadsheetlaw01_SameTexts.f
    by_cases he : ((ns.map mkB).length : Int) = ((ms.map mkB).length : Int)
    · rw [if_pos he]
      exact any_loop _ _ (by rw [hl]; exact hn) zb6 _ 0 zb6
    · rw [if_neg he]
      exact ⟨false, rfl⟩
  refine (P.broadsheetlaw01_SameTexts.calls _ A1 c1 _ A2 c2 _ b w r1 k1 r2 k2 hf).mono ?_
  rintro e w' ⟨he, hd⟩
  exact ⟨b, he, hd.below⟩
end Go.Proofs.Ytblmjnknagpacaa.Pl
/- PlSb -/
namespace Go.Proofs.Ytblmjnknagpacaa.Pl
open Go Go.RowKit Go.Maps Go.Proofs.YtblmjnknagpacaaW.PrintWords Go.Proofs.YtblmjnknagpacaaW.PrintLast Go.Proofs.YtblmjnknagpacaaW.PrintMore
set_option linter.unusedVariables false
set_option linter.unusedSimpArgs false
section
variable {w : World} {bp br : Nat} {m mr : Mach} {H : Nat → Prop} {C : Nat}
/-- A new block's cells, wherever only blocks of F have turned. -/
theorem box_keep {w w1 : World} {F : Nat → Prop} {cs : Array Value} {t : TypeId} (ht : Tch F (w.alloc (.cells cs t (0, 0))).drew w1) (hF : ∀ i, F i → i < w.heap.size) : w1.heap[w.heap.size]? = some (.cells cs t (0, 0)) :=
  ht.keep (alloc_new w _) (fun h => by have := hF _ h; omega)
theorem box_keep0 {w w1 : World} {F : Nat → Prop} {cs : Array Value} {t : TypeId} (ht : Tch F (w.alloc (.cells cs t (0, 0))) w1) (hF : ∀ i, F i → i < w.heap.size) : w1.heap[w.heap.size]? = some (.cells cs t (0, 0)) :=
  ht.keep (alloc_new w _) (fun h => by have := hF _ h; omega)
set_option maxRecDepth 100000 in
set_option maxHeartbeats 4000000 in
theorem same_create (q k n mm : Int) (a b s : ByteArray) (hq : bits BinOp.and IntKind.i64 q 15 = k) (hk : k = 0 ∨ k = 1 ∨ k = 2) (h : Two w bp br m mr H) (hi : Inv C m) (hir : Inv C mr) (hC : C ≤ 10000000) (ha : a.size ≤ 100000000000000) :
    Calls Try.prog 12 #[.pointer (some ⟨bp, 0, none⟩), .pointer (some ⟨br, 0, none⟩), .agg #[.int .i64 q, .string a, .string b, .string s, .int .i64 n, .int .i64 mm]] w fun e w' => ∃ z, e = .returned (.bool z) ∧ Two w' bp br (create m a.data.toList).2 (create mr a.data.toList).2 (grow H w w') ∧ Tch H w w' := by
  obtain ⟨F, G, hp, hr, hd, hF, hH⟩ := h
  have hFl : ∀ i, F i → i < w.heap.size := fun i hi => hH i (hF i (.inl hi))
  have hGl : ∀ i, G i → i < w.heap.size := fun i hi => hH i (hF i (.inr hi))
  have T0 := Lib.hid (show Tch (fun _ => False) w (w.alloc (.cells #[.int .i64 q, .string a, .string b, .string s, .int .i64 n, .int .i64 mm] 37)).drew from (Tch.alloc _ w _).drewA)
  have HP := Lib.hid (Create_calls bp m F a (w.alloc (.cells #[.int .i64 q, .string a, .string b, .string s, .int .i64 n, .int .i64 mm] 37)).drew (hp.next T0.out (fun _ _ _ h => h)) hi zb6 ha)
  have HR := Lib.hid (fun (w1 : World) (t1 : Tch F (w.alloc (.cells #[.int .i64 q, .string a, .string b, .string s, .int .i64 n, .int .i64 mm] 37)).drew w1) => CreateR_calls a ha ((hr.next T0.out (fun _ _ _ h => h)).next t1 (fun i hg _ hf => hd i hf hg)) hir zb6)
  have HB := Lib.hid (fun (w1 : World) (t1 : Tch F (w.alloc (.cells #[.int .i64 q, .string a, .string b, .string s, .int .i64 n, .int .i64 mm] 37)).drew w1) => box_keep t1 hFl)
  have HB3 := Lib.hid (fun (w1 w3 : World) (t1 : Tch F (w.alloc (.cells #[.int .i64 q, .string a, .string b, .string s, .int .i64 n, .int .i64 mm] 37)).drew w1) (t3 : Tch G w1 w3) => t3.keep (box_keep t1 hFl) (fun hg => by have := hGl _ hg; omega))
  have HFIN := Lib.hid (fun (w1 w3 : World) (m' mr' : Mach) (hp1 : Plate w1 bp m' (grow F (w.alloc (.cells #[.int .i64 q, .string a, .string b, .string s, .int .i64 n, .int .i64 mm] 37)).drew w1)) (t1 : Tch F (w.alloc (.cells #[.int .i64 q, .string a, .string b, .string s, .int .i64 n, .int .i64 mm] 37)).drew w1) (hr3 : RPlate w3 br mr' (grow G w1 w3)) (t3 : Tch G w1 w3) => two_done hd hF hH T0.out hp1 t1 (Tch.refl _ _) hr3 t3)
  clear hp hr hd hF hH hFl hGl
  rcases hk with rfl | rfl | rfl
  all_goals
    go_enter Try.func12, Try.ntmps12
    go_wp2
    refine start_ (n := 10) (S := fun w' => w'.heap[w.heap.size]? = some (.cells #[.int .i64 q, .string a, .string b, .string s, .int .i64 n, .int .i64 mm] 37 (0, 0))) (ds := []) #[false, false, false, false, false, false, false, false, false, false] zb2 rfl rfl (alloc_new w _) (fun hHeld => ?_)
    refine pure_ (i := 0) (N := some 30) (v := ?_) (a' := ?_) #[true, false, false, false, false, false, false, false, false, false] rfl rfl zb2 (fun _ _ _ h => h) (Or.inl ⟨by rfl, ?_⟩) ?_ ?_
    rotate_left
    · intro w'
      go_simp
      first | with_reducible rfl | rfl
    rotate_left
    · simp only [Act.put, List.setIfInBounds_toArray, List.set_cons_zero, List.set_cons_succ]
      rfl
    refine pure_ (i := 1) (N := some 31) (v := ?_) (a' := ?_) #[true, true, false, false, false, false, false, false, false, false] rfl rfl zb2 (fun _ _ _ h => h) (Or.inl ⟨by rfl, ?_⟩) ?_ ?_
    rotate_left
    · intro w'
      go_simp
      first | with_reducible rfl | rfl
    rotate_left
    · simp only [Act.put, List.setIfInBounds_toArray, List.set_cons_zero, List.set_cons_succ]
      rfl
    refine pure_ (i := 4) (N := some 34) (v := ?_) (a' := ?_) #[true, true, false, false, true, false, false, false, false, false] rfl rfl zb2 (fun _ _ _ h => h) (Or.inl ⟨by rfl, ?_⟩) ?_ ?_
    rotate_left
    · intro w'
      go_simp
      first | with_reducible rfl | rfl
    rotate_left
    · simp only [Act.put, List.setIfInBounds_toArray, List.set_cons_zero, List.set_cons_succ]
      rfl
    refine pure_ (i := 5) (N := some 35) (v := ?_) (a' := ?_) #[true, true, false, false, true, true, false, false, false, false] rfl rfl zb2 (fun _ _ _ h => h) (Or.inl ⟨by rfl, ?_⟩) ?_ ?_
    rotate_left
    · intro w'
      go_simp
      first | with_reducible rfl | rfl
    rotate_left
    · simp only [Act.put, List.setIfInBounds_toArray, List.set_cons_zero, List.set_cons_succ]
      rfl
    refine take_ (i := 2) (N := some 32) (v := ?_) (a' := ?_) #[true, true, true, false, true, true, false, false, false, false] rfl rfl zb2 (fun _ _ _ h => h) (Or.inl ⟨by rfl, ?_⟩) hHeld ?_ ?_
    rotate_left
    · intro w' hs
      have cs : w'.cell? ⟨w.heap.size, 1, none⟩ = some (.string a) := cell_at hs 1
      go_simp
      first | with_reducible rfl | rfl
    rotate_left
    · simp only [Act.put, List.setIfInBounds_toArray, List.set_cons_zero, List.set_cons_succ]
      rfl
    refine take_ (i := 6) (N := some 36) (v := ?_) (a' := ?_) #[true, true, true, false, true, true, true, false, false, false] rfl rfl zb2 (fun _ _ _ h => h) (Or.inl ⟨by rfl, ?_⟩) hHeld ?_ ?_
    rotate_left
    · intro w' hs
      have cs : w'.cell? ⟨w.heap.size, 1, none⟩ = some (.string a) := cell_at hs 1
      go_simp
      first | with_reducible rfl | rfl
    rotate_left
    · simp only [Act.put, List.setIfInBounds_toArray, List.set_cons_zero, List.set_cons_succ]
      rfl
    refine one_ (i := 3) (N := some 33) #[true, true, true, true, true, true, true, false, false, false] rfl rfl zb2 zb8 (fun K hK => ?_)
    refine goes_ Try.func8 zb2 rfl #[.pointer (some ⟨bp, 0, none⟩), .string a] (by rfl) rfl rfl zb7 ?_
    refine HP.out.mono ?_
    rintro e w1 ⟨rfl, hp1, ht1⟩
    have HP1 := Lib.hid hp1
    have HT1 := Lib.hid ht1
    have hb1 := HB.out _ ht1
    refine ⟨_, rfl, ?_⟩
    refine hK.out _ _ hb1 (fun hHeld => ?_)
    clear hK K hp1 ht1 hb1
    refine norm_ (a' := ?_) ?_ ?_
    rotate_left
    · show Act.put _ (some 33) _ = _
      simp only [Act.put, List.setIfInBounds_toArray, List.set_cons_zero, List.set_cons_succ]
      rfl
    refine one_ (i := 7) (N := some 37) #[true, true, true, true, true, true, true, true, false, false] rfl rfl zb2 zb8 (fun K hK => ?_)
    refine goes_ Try.func9 zb2 rfl #[.pointer (some ⟨br, 0, none⟩), .string a] (by rfl) rfl rfl zb7 ?_
    refine (HR.out _ HT1.out).mono ?_
    rintro e w3 ⟨rfl, hr3, ht3⟩
    have HR3 := Lib.hid hr3
    have HT3 := Lib.hid ht3
    have hb3 := HB3.out _ _ HT1.out ht3
    refine ⟨_, rfl, ?_⟩
    refine hK.out _ _ hb3 (fun hHeld => ?_)
    clear hK K hr3 ht3 hb3
    refine norm_ (a' := ?_) ?_ ?_
    rotate_left
    · show Act.put _ (some 37) _ = _
      simp only [Act.put, List.setIfInBounds_toArray, List.set_cons_zero, List.set_cons_succ]
      rfl
    refine pure_ (i := 8) (N := some 38) (v := ?_) (a' := ?_) #[true, true, true, true, true, true, true, true, true, false] rfl rfl zb2 (fun _ _ _ h => h) (Or.inl ⟨by rfl, ?_⟩) ?_ ?_
    rotate_left
    · intro w'
      go_simp
      first | with_reducible rfl | rfl
    rotate_left
    · simp only [Act.put, List.setIfInBounds_toArray, List.set_cons_zero, List.set_cons_succ]
      rfl
    refine pure_ (i := 9) (N := some 6) (v := ?_) (a' := ?_) #[true, true, true, true, true, true, true, true, true, true] rfl rfl zb2 (fun _ _ _ h => h) (Or.inl ⟨by rfl, ?_⟩) ?_ ?_
    rotate_left
    · intro w'
      go_simp
      first | with_reducible rfl | rfl
    rotate_left
    · simp only [Act.put, List.setIfInBounds_toArray, List.set_cons_zero, List.set_cons_succ]
      rfl
    refine done_ zb2 ?_
    go_wp2
    go_ret
    obtain ⟨h1, h2⟩ := HFIN.out _ _ _ _ HP1.out HT1.out HR3.out HT3.out
    exact ⟨_, rfl, h1, h2⟩
set_option maxRecDepth 100000 in
set_option maxHeartbeats 4000000 in
theorem same_write (q k n mm : Int) (a b s : ByteArray) (hq : bits BinOp.and IntKind.i64 q 15 = k) (hk : k = 3 ∨ k = 4 ∨ k = 5 ∨ k = 14 ∨ k = 15) (h : Two w bp br m mr H) (hi : Inv C m) (hir : Inv C mr) (hC : C ≤ 10000000) (ha : a.size ≤ 100000000000000) (hsz : s.size ≤ 1000000000) :
    Calls Try.prog 12 #[.pointer (some ⟨bp, 0, none⟩), .pointer (some ⟨br, 0, none⟩), .agg #[.int .i64 q, .string a, .string b, .string s, .int .i64 n, .int .i64 mm]] w fun e w' => ∃ z, e = .returned (.bool z) ∧ Two w' bp br (write m a.data.toList s.data.toList).2 (write mr a.data.toList s.data.toList).2 (grow H w w') ∧ Tch H w w' := by
  obtain ⟨F, G, hp, hr, hd, hF, hH⟩ := h
  have hFl : ∀ i, F i → i < w.heap.size := fun i hi => hH i (hF i (.inl hi))
  have hGl : ∀ i, G i → i < w.heap.size := fun i hi => hH i (hF i (.inr hi))
  have T0 := Lib.hid (show Tch (fun _ => False) w (w.alloc (.cells #[.int .i64 q, .string a, .string b, .string s, .int .i64 n, .int .i64 mm] 37)).drew from (Tch.alloc _ w _).drewA)
  have HP := Lib.hid (Write_calls (w := (w.alloc (.cells #[.int .i64 q, .string a, .string b, .string s, .int .i64 n, .int .i64 mm] 37)).drew) a s (hp.next T0.out (fun _ _ _ h => h)) hi zb6 ha hsz)
  have HR := Lib.hid (fun (w1 : World) (t1 : Tch F (w.alloc (.cells #[.int .i64 q, .string a, .string b, .string s, .int .i64 n, .int .i64 mm] 37)).drew w1) => WriteR_calls a s hsz ((hr.next T0.out (fun _ _ _ h => h)).next t1 (fun i hg _ hf => hd i hf hg)) hir zb6)
  have HB := Lib.hid (fun (w1 : World) (t1 : Tch F (w.alloc (.cells #[.int .i64 q, .string a, .string b, .string s, .int .i64 n, .int .i64 mm] 37)).drew w1) => box_keep t1 hFl)
  have HB3 := Lib.hid (fun (w1 w3 : World) (t1 : Tch F (w.alloc (.cells #[.int .i64 q, .string a, .string b, .string s, .int .i64 n, .int .i64 mm] 37)).drew w1) (t3 : Tch G w1 w3) => t3.keep (box_keep t1 hFl) (fun hg => by have := hGl _ hg; omega))
  have HFIN := Lib.hid (fun (w1 w3 : World) (m' mr' : Mach) (hp1 : Plate w1 bp m' (grow F (w.alloc (.cells #[.int .i64 q, .string a, .string b, .string s, .int .i64 n, .int .i64 mm] 37)).drew w1)) (t1 : Tch F (w.alloc (.cells #[.int .i64 q, .string a, .string b, .string s, .int .i64 n, .int .i64 mm] 37)).drew w1) (hr3 : RPlate w3 br mr' (grow G w1 w3)) (t3 : Tch G w1 w3) => two_done hd hF hH T0.out hp1 t1 (Tch.refl _ _) hr3 t3)
  clear hp hr hd hF hH hFl hGl
  rcases hk with rfl | rfl | rfl | rfl | rfl
  all_goals
    go_enter Try.func12, Try.ntmps12
    go_wp2
    refine start_ (n := 14) (S := fun w' => w'.heap[w.heap.size]? = some (.cells #[.int .i64 q, .string a, .string b, .string s, .int .i64 n, .int .i64 mm] 37 (0, 0))) (ds := []) #[false, false, false, false, false, false, false, false, false, false, false, false, false, false] zb2 rfl rfl (alloc_new w _) (fun hHeld => ?_)
    refine pure_ (i := 0) (N := some 46) (v := ?_) (a' := ?_) #[true, false, false, false, false, false, false, false, false, false, false, false, false, false] rfl rfl zb2 (fun _ _ _ h => h) (Or.inl ⟨by rfl, ?_⟩) ?_ ?_
    rotate_left
    · intro w'
      go_simp
      first | with_reducible rfl | rfl
    rotate_left
    · simp only [Act.put, List.setIfInBounds_toArray, List.set_cons_zero, List.set_cons_succ]
      rfl
    refine pure_ (i := 1) (N := some 47) (v := ?_) (a' := ?_) #[true, true, false, false, false, false, false, false, false, false, false, false, false, false] rfl rfl zb2 (fun _ _ _ h => h) (Or.inl ⟨by rfl, ?_⟩) ?_ ?_
    rotate_left
    · intro w'
      go_simp
      first | with_reducible rfl | rfl
    rotate_left
    · simp only [Act.put, List.setIfInBounds_toArray, List.set_cons_zero, List.set_cons_succ]
      rfl
    refine pure_ (i := 3) (N := some 49) (v := ?_) (a' := ?_) #[true, true, false, true, false, false, false, false, false, false, false, false, false, false] rfl rfl zb2 (fun _ _ _ h => h) (Or.inl ⟨by rfl, ?_⟩) ?_ ?_
    rotate_left
    · intro w'
      go_simp
      first | with_reducible rfl | rfl
    rotate_left
    · simp only [Act.put, List.setIfInBounds_toArray, List.set_cons_zero, List.set_cons_succ]
      rfl
    refine pure_ (i := 6) (N := some 52) (v := ?_) (a' := ?_) #[true, true, false, true, false, false, true, false, false, false, false, false, false, false] rfl rfl zb2 (fun _ _ _ h => h) (Or.inl ⟨by rfl, ?_⟩) ?_ ?_
    rotate_left
    · intro w'
      go_simp
      first | with_reducible rfl | rfl
    rotate_left
    · simp only [Act.put, List.setIfInBounds_toArray, List.set_cons_zero, List.set_cons_succ]
      rfl
    refine pure_ (i := 7) (N := some 53) (v := ?_) (a' := ?_) #[true, true, false, true, false, false, true, true, false, false, false, false, false, false] rfl rfl zb2 (fun _ _ _ h => h) (Or.inl ⟨by rfl, ?_⟩) ?_ ?_
    rotate_left
    · intro w'
      go_simp
      first | with_reducible rfl | rfl
    rotate_left
    · simp only [Act.put, List.setIfInBounds_toArray, List.set_cons_zero, List.set_cons_succ]
      rfl
    refine pure_ (i := 9) (N := some 55) (v := ?_) (a' := ?_) #[true, true, false, true, false, false, true, true, false, true, false, false, false, false] rfl rfl zb2 (fun _ _ _ h => h) (Or.inl ⟨by rfl, ?_⟩) ?_ ?_
    rotate_left
    · intro w'
      go_simp
      first | with_reducible rfl | rfl
    rotate_left
    · simp only [Act.put, List.setIfInBounds_toArray, List.set_cons_zero, List.set_cons_succ]
      rfl
    refine take_ (i := 2) (N := some 48) (v := ?_) (a' := ?_) #[true, true, true, true, false, false, true, true, false, true, false, false, false, false] rfl rfl zb2 (fun _ _ _ h => h) (Or.inl ⟨by rfl, ?_⟩) hHeld ?_ ?_
    rotate_left
    · intro w' hs
      have cs : w'.cell? ⟨w.heap.size, 1, none⟩ = some (.string a) := cell_at hs 1
      go_simp
      first | with_reducible rfl | rfl
    rotate_left
    · simp only [Act.put, List.setIfInBounds_toArray, List.set_cons_zero, List.set_cons_succ]
      rfl
    refine take_ (i := 4) (N := some 50) (v := ?_) (a' := ?_) #[true, true, true, true, true, false, true, true, false, true, false, false, false, false] rfl rfl zb2 (fun _ _ _ h => h) (Or.inl ⟨by rfl, ?_⟩) hHeld ?_ ?_
    rotate_left
    · intro w' hs
      have cs : w'.cell? ⟨w.heap.size, 3, none⟩ = some (.string s) := cell_at hs 3
      go_simp
      first | with_reducible rfl | rfl
    rotate_left
    · simp only [Act.put, List.setIfInBounds_toArray, List.set_cons_zero, List.set_cons_succ]
      rfl
    refine take_ (i := 8) (N := some 54) (v := ?_) (a' := ?_) #[true, true, true, true, true, false, true, true, true, true, false, false, false, false] rfl rfl zb2 (fun _ _ _ h => h) (Or.inl ⟨by rfl, ?_⟩) hHeld ?_ ?_
    rotate_left
    · intro w' hs
      have cs : w'.cell? ⟨w.heap.size, 1, none⟩ = some (.string a) := cell_at hs 1
      go_simp
      first | with_reducible rfl | rfl
    rotate_left
    · simp only [Act.put, List.setIfInBounds_toArray, List.set_cons_zero, List.set_cons_succ]
      rfl
    refine take_ (i := 10) (N := some 56) (v := ?_) (a' := ?_) #[true, true, true, true, true, false, true, true, true, true, true, false, false, false] rfl rfl zb2 (fun _ _ _ h => h) (Or.inl ⟨by rfl, ?_⟩) hHeld ?_ ?_
    rotate_left
    · intro w' hs
      have cs : w'.cell? ⟨w.heap.size, 3, none⟩ = some (.string s) := cell_at hs 3
      go_simp
      first | with_reducible rfl | rfl
    rotate_left
    · simp only [Act.put, List.setIfInBounds_toArray, List.set_cons_zero, List.set_cons_succ]
      rfl
    refine one_ (i := 5) (N := some 51) #[true, true, true, true, true, true, true, true, true, true, true, false, false, false] rfl rfl zb2 zb8 (fun K hK => ?_)
    refine goes_ Try.func15 zb2 rfl #[.pointer (some ⟨bp, 0, none⟩), .string a, .string s] (by rfl) rfl rfl zb7 ?_
    refine HP.out.mono ?_
    rintro e w1 ⟨rfl, hp1, ht1⟩
    have HP1 := Lib.hid hp1
    have HT1 := Lib.hid ht1
    have hb1 := HB.out _ ht1
    refine ⟨_, rfl, ?_⟩
    refine hK.out _ _ hb1 (fun hHeld => ?_)
    clear hK K hp1 ht1 hb1
    refine norm_ (a' := ?_) ?_ ?_
    rotate_left
    · show Act.put _ (some 51) _ = _
      simp only [Act.put, List.setIfInBounds_toArray, List.set_cons_zero, List.set_cons_succ]
      rfl
    refine one_ (i := 11) (N := some 57) #[true, true, true, true, true, true, true, true, true, true, true, true, false, false] rfl rfl zb2 zb8 (fun K hK => ?_)
    refine goes_ Try.func33 zb2 rfl #[.pointer (some ⟨br, 0, none⟩), .string a, .string s] (by rfl) rfl rfl zb7 ?_
    refine (HR.out _ HT1.out).mono ?_
    rintro e w3 ⟨rfl, hr3, ht3⟩
    have HR3 := Lib.hid hr3
    have HT3 := Lib.hid ht3
    have hb3 := HB3.out _ _ HT1.out ht3
    refine ⟨_, rfl, ?_⟩
    refine hK.out _ _ hb3 (fun hHeld => ?_)
    clear hK K hr3 ht3 hb3
    refine norm_ (a' := ?_) ?_ ?_
    rotate_left
    · show Act.put _ (some 57) _ = _
      simp only [Act.put, List.setIfInBounds_toArray, List.set_cons_zero, List.set_cons_succ]
      rfl
    refine pure_ (i := 12) (N := some 58) (v := ?_) (a' := ?_) #[true, true, true, true, true, true, true, true, true, true, true, true, true, false] rfl rfl zb2 (fun _ _ _ h => h) (Or.inl ⟨by rfl, ?_⟩) ?_ ?_
    rotate_left
    · intro w'
      go_simp
      first | with_reducible rfl | rfl
    rotate_left
    · simp only [Act.put, List.setIfInBounds_toArray, List.set_cons_zero, List.set_cons_succ]
      rfl
    refine pure_ (i := 13) (N := some 6) (v := ?_) (a' := ?_) #[true, true, true, true, true, true, true, true, true, true, true, true, true, true] rfl rfl zb2 (fun _ _ _ h => h) (Or.inl ⟨by rfl, ?_⟩) ?_ ?_
    rotate_left
    · intro w'
      go_simp
      first | with_reducible rfl | rfl
    rotate_left
    · simp only [Act.put, List.setIfInBounds_toArray, List.set_cons_zero, List.set_cons_succ]
      rfl
    refine done_ zb2 ?_
    go_wp2
    go_ret
    obtain ⟨h1, h2⟩ := HFIN.out _ _ _ _ HP1.out HT1.out HR3.out HT3.out
    exact ⟨_, rfl, h1, h2⟩
set_option maxRecDepth 100000 in
set_option maxHeartbeats 4000000 in
theorem same_sync (q k n mm : Int) (a b s : ByteArray) (hq : bits BinOp.and IntKind.i64 q 15 = k) (hk : k = 6) (h : Two w bp br m mr H) (hi : Inv C m) (hir : Inv C mr) (hC : C ≤ 10000000) (ha : a.size ≤ 100000000000000) :
    Calls Try.prog 12 #[.pointer (some ⟨bp, 0, none⟩), .pointer (some ⟨br, 0, none⟩), .agg #[.int .i64 q, .string a, .string b, .string s, .int .i64 n, .int .i64 mm]] w fun e w' => ∃ z, e = .returned (.bool z) ∧ Two w' bp br (sync m a.data.toList).2 (sync mr a.data.toList).2 (grow H w w') ∧ Tch H w w' := by
  obtain ⟨F, G, hp, hr, hd, hF, hH⟩ := h
  have hFl : ∀ i, F i → i < w.heap.size := fun i hi => hH i (hF i (.inl hi))
  have hGl : ∀ i, G i → i < w.heap.size := fun i hi => hH i (hF i (.inr hi))
  have T0 := Lib.hid (show Tch (fun _ => False) w (w.alloc (.cells #[.int .i64 q, .string a, .string b, .string s, .int .i64 n, .int .i64 mm] 37)).drew from (Tch.alloc _ w _).drewA)
  have HP := Lib.hid (Sync_calls (w := (w.alloc (.cells #[.int .i64 q, .string a, .string b, .string s, .int .i64 n, .int .i64 mm] 37)).drew) a (hp.next T0.out (fun _ _ _ h => h)) hi ha)
  have HR := Lib.hid (fun (w1 : World) (t1 : Tch F (w.alloc (.cells #[.int .i64 q, .string a, .string b, .string s, .int .i64 n, .int .i64 mm] 37)).drew w1) => SyncR_calls a ((hr.next T0.out (fun _ _ _ h => h)).next t1 (fun i hg _ hf => hd i hf hg)) hir zb6)
  have HB := Lib.hid (fun (w1 : World) (t1 : Tch F (w.alloc (.cells #[.int .i64 q, .string a, .string b, .string s, .int .i64 n, .int .i64 mm] 37)).drew w1) => box_keep t1 hFl)
  have HB3 := Lib.hid (fun (w1 w3 : World) (t1 : Tch F (w.alloc (.cells #[.int .i64 q, .string a, .string b, .string s, .int .i64 n, .int .i64 mm] 37)).drew w1) (t3 : Tch G w1 w3) => t3.keep (box_keep t1 hFl) (fun hg => by have := hGl _ hg; omega))
  have HFIN := Lib.hid (fun (w1 w3 : World) (m' mr' : Mach) (hp1 : Plate w1 bp m' (grow F (w.alloc (.cells #[.int .i64 q, .string a, .string b, .string s, .int .i64 n, .int .i64 mm] 37)).drew w1)) (t1 : Tch F (w.alloc (.cells #[.int .i64 q, .string a, .string b, .string s, .int .i64 n, .int .i64 mm] 37)).drew w1) (hr3 : RPlate w3 br mr' (grow G w1 w3)) (t3 : Tch G w1 w3) => two_done hd hF hH T0.out hp1 t1 (Tch.refl _ _) hr3 t3)
  clear hp hr hd hF hH hFl hGl
  rcases hk with rfl
  all_goals
    go_enter Try.func12, Try.ntmps12
    go_wp2
    refine start_ (n := 10) (S := fun w' => w'.heap[w.heap.size]? = some (.cells #[.int .i64 q, .string a, .string b, .string s, .int .i64 n, .int .i64 mm] 37 (0, 0))) (ds := []) #[false, false, false, false, false, false, false, false, false, false] zb2 rfl rfl (alloc_new w _) (fun hHeld => ?_)
    refine pure_ (i := 0) (N := some 62) (v := ?_) (a' := ?_) #[true, false, false, false, false, false, false, false, false, false] rfl rfl zb2 (fun _ _ _ h => h) (Or.inl ⟨by rfl, ?_⟩) ?_ ?_
    rotate_left
    · intro w'
      go_simp
      first | with_reducible rfl | rfl
    rotate_left
    · simp only [Act.put, List.setIfInBounds_toArray, List.set_cons_zero, List.set_cons_succ]
      rfl
    refine pure_ (i := 1) (N := some 63) (v := ?_) (a' := ?_) #[true, true, false, false, false, false, false, false, false, false] rfl rfl zb2 (fun _ _ _ h => h) (Or.inl ⟨by rfl, ?_⟩) ?_ ?_
    rotate_left
    · intro w'
      go_simp
      first | with_reducible rfl | rfl
    rotate_left
    · simp only [Act.put, List.setIfInBounds_toArray, List.set_cons_zero, List.set_cons_succ]
      rfl
    refine pure_ (i := 4) (N := some 66) (v := ?_) (a' := ?_) #[true, true, false, false, true, false, false, false, false, false] rfl rfl zb2 (fun _ _ _ h => h) (Or.inl ⟨by rfl, ?_⟩) ?_ ?_
    rotate_left
    · intro w'
      go_simp
      first | with_reducible rfl | rfl
    rotate_left
    · simp only [Act.put, List.setIfInBounds_toArray, List.set_cons_zero, List.set_cons_succ]
      rfl
    refine pure_ (i := 5) (N := some 67) (v := ?_) (a' := ?_) #[true, true, false, false, true, true, false, false, false, false] rfl rfl zb2 (fun _ _ _ h => h) (Or.inl ⟨by rfl, ?_⟩) ?_ ?_
    rotate_left
    · intro w'
      go_simp
      first | with_reducible rfl | rfl
    rotate_left
    · simp only [Act.put, List.setIfInBounds_toArray, List.set_cons_zero, List.set_cons_succ]
      rfl
    refine take_ (i := 2) (N := some 64) (v := ?_) (a' := ?_) #[true, true, true, false, true, true, false, false, false, false] rfl rfl zb2 (fun _ _ _ h => h) (Or.inl ⟨by rfl, ?_⟩) hHeld ?_ ?_
    rotate_left
    · intro w' hs
      have cs : w'.cell? ⟨w.heap.size, 1, none⟩ = some (.string a) := cell_at hs 1
      go_simp
      first | with_reducible rfl | rfl
    rotate_left
    · simp only [Act.put, List.setIfInBounds_toArray, List.set_cons_zero, List.set_cons_succ]
      rfl
    refine take_ (i := 6) (N := some 68) (v := ?_) (a' := ?_) #[true, true, true, false, true, true, true, false, false, false] rfl rfl zb2 (fun _ _ _ h => h) (Or.inl ⟨by rfl, ?_⟩) hHeld ?_ ?_
    rotate_left
    · intro w' hs
      have cs : w'.cell? ⟨w.heap.size, 1, none⟩ = some (.string a) := cell_at hs 1
      go_simp
      first | with_reducible rfl | rfl
    rotate_left
    · simp only [Act.put, List.setIfInBounds_toArray, List.set_cons_zero, List.set_cons_succ]
      rfl
    refine one_ (i := 3) (N := some 65) #[true, true, true, true, true, true, true, false, false, false] rfl rfl zb2 zb8 (fun K hK => ?_)
    refine goes_ Try.func16 zb2 rfl #[.pointer (some ⟨bp, 0, none⟩), .string a] (by rfl) rfl rfl zb7 ?_
    refine HP.out.mono ?_
    rintro e w1 ⟨rfl, hp1, ht1⟩
    have HP1 := Lib.hid hp1
    have HT1 := Lib.hid ht1
    have hb1 := HB.out _ ht1
    refine ⟨_, rfl, ?_⟩
    refine hK.out _ _ hb1 (fun hHeld => ?_)
    clear hK K hp1 ht1 hb1
    refine norm_ (a' := ?_) ?_ ?_
    rotate_left
    · show Act.put _ (some 65) _ = _
      simp only [Act.put, List.setIfInBounds_toArray, List.set_cons_zero, List.set_cons_succ]
      rfl
    refine one_ (i := 7) (N := some 69) #[true, true, true, true, true, true, true, true, false, false] rfl rfl zb2 zb8 (fun K hK => ?_)
    refine goes_ Try.func34 zb2 rfl #[.pointer (some ⟨br, 0, none⟩), .string a] (by rfl) rfl rfl zb7 ?_
    refine (HR.out _ HT1.out).mono ?_
    rintro e w3 ⟨rfl, hr3, ht3⟩
    have HR3 := Lib.hid hr3
    have HT3 := Lib.hid ht3
    have hb3 := HB3.out _ _ HT1.out ht3
    refine ⟨_, rfl, ?_⟩
    refine hK.out _ _ hb3 (fun hHeld => ?_)
    clear hK K hr3 ht3 hb3
    refine norm_ (a' := ?_) ?_ ?_
    rotate_left
    · show Act.put _ (some 69) _ = _
      simp only [Act.put, List.setIfInBounds_toArray, List.set_cons_zero, List.set_cons_succ]
      rfl
    refine pure_ (i := 8) (N := some 70) (v := ?_) (a' := ?_) #[true, true, true, true, true, true, true, true, true, false] rfl rfl zb2 (fun _ _ _ h => h) (Or.inl ⟨by rfl, ?_⟩) ?_ ?_
    rotate_left
    · intro w'
      go_simp
      first | with_reducible rfl | rfl
    rotate_left
    · simp only [Act.put, List.setIfInBounds_toArray, List.set_cons_zero, List.set_cons_succ]
      rfl
    refine pure_ (i := 9) (N := some 6) (v := ?_) (a' := ?_) #[true, true, true, true, true, true, true, true, true, true] rfl rfl zb2 (fun _ _ _ h => h) (Or.inl ⟨by rfl, ?_⟩) ?_ ?_
    rotate_left
    · intro w'
      go_simp
      first | with_reducible rfl | rfl
    rotate_left
    · simp only [Act.put, List.setIfInBounds_toArray, List.set_cons_zero, List.set_cons_succ]
      rfl
    refine done_ zb2 ?_
    go_wp2
    go_ret
    obtain ⟨h1, h2⟩ := HFIN.out _ _ _ _ HP1.out HT1.out HR3.out HT3.out
    exact ⟨_, rfl, h1, h2⟩
set_option maxRecDepth 100000 in
set_option maxHeartbeats 4000000 in
theorem same_rename (q k n mm : Int) (a b s : ByteArray) (hq : bits BinOp.and IntKind.i64 q 15 = k) (hk : k = 7) (h : Two w bp br m mr H) (hi : Inv C m) (hir : Inv C mr) (hC : C ≤ 10000000) (ha : a.size ≤ 100000000000000) (hb : b.size ≤ 100000000000000) :
    Calls Try.prog 12 #[.pointer (some ⟨bp, 0, none⟩), .pointer (some ⟨br, 0, none⟩), .agg #[.int .i64 q, .string a, .string b, .string s, .int .i64 n, .int .i64 mm]] w fun e w' => ∃ z, e = .returned (.bool z) ∧ Two w' bp br (rename m a.data.toList b.data.toList).2 (rename mr a.data.toList b.data.toList).2 (grow H w w') ∧ Tch H w w' := by
  obtain ⟨F, G, hp, hr, hd, hF, hH⟩ := h
  have hFl : ∀ i, F i → i < w.heap.size := fun i hi => hH i (hF i (.inl hi))
  have hGl : ∀ i, G i → i < w.heap.size := fun i hi => hH i (hF i (.inr hi))
  have T0 := Lib.hid (show Tch (fun _ => False) w (w.alloc (.cells #[.int .i64 q, .string a, .string b, .string s, .int .i64 n, .int .i64 mm] 37)).drew from (Tch.alloc _ w _).drewA)
  have HP := Lib.hid (Rename_calls (w := (w.alloc (.cells #[.int .i64 q, .string a, .string b, .string s, .int .i64 n, .int .i64 mm] 37)).drew) a b (hp.next T0.out (fun _ _ _ h => h)) hi hC ha hb)
  have HR := Lib.hid (fun (w1 : World) (t1 : Tch F (w.alloc (.cells #[.int .i64 q, .string a, .string b, .string s, .int .i64 n, .int .i64 mm] 37)).drew w1) => RenameR_calls a b hb ((hr.next T0.out (fun _ _ _ h => h)).next t1 (fun i hg _ hf => hd i hf hg)) hir zb6)
  have HB := Lib.hid (fun (w1 : World) (t1 : Tch F (w.alloc (.cells #[.int .i64 q, .string a, .string b, .string s, .int .i64 n, .int .i64 mm] 37)).drew w1) => box_keep t1 hFl)
  have HB3 := Lib.hid (fun (w1 w3 : World) (t1 : Tch F (w.alloc (.cells #[.int .i64 q, .string a, .string b, .string s, .int .i64 n, .int .i64 mm] 37)).drew w1) (t3 : Tch G w1 w3) => t3.keep (box_keep t1 hFl) (fun hg => by have := hGl _ hg; omega))
  have HFIN := Lib.hid (fun (w1 w3 : World) (m' mr' : Mach) (hp1 : Plate w1 bp m' (grow F (w.alloc (.cells #[.int .i64 q, .string a, .string b, .string s, .int .i64 n, .int .i64 mm] 37)).drew w1)) (t1 : Tch F (w.alloc (.cells #[.int .i64 q, .string a, .string b, .string s, .int .i64 n, .int .i64 mm] 37)).drew w1) (hr3 : RPlate w3 br mr' (grow G w1 w3)) (t3 : Tch G w1 w3) => two_done hd hF hH T0.out hp1 t1 (Tch.refl _ _) hr3 t3)
  clear hp hr hd hF hH hFl hGl
  rcases hk with rfl
  all_goals
    go_enter Try.func12, Try.ntmps12
    go_wp2
    refine start_ (n := 14) (S := fun w' => w'.heap[w.heap.size]? = some (.cells #[.int .i64 q, .string a, .string b, .string s, .int .i64 n, .int .i64 mm] 37 (0, 0))) (ds := []) #[false, false, false, false, false, false, false, false, false, false, false, false, false, false] zb2 rfl rfl (alloc_new w _) (fun hHeld => ?_)
    refine pure_ (i := 0) (N := some 74) (v := ?_) (a' := ?_) #[true, false, false, false, false, false, false, false, false, false, false, false, false, false] rfl rfl zb2 (fun _ _ _ h => h) (Or.inl ⟨by rfl, ?_⟩) ?_ ?_
    rotate_left
    · intro w'
      go_simp
      first | with_reducible rfl | rfl
    rotate_left
    · simp only [Act.put, List.setIfInBounds_toArray, List.set_cons_zero, List.set_cons_succ]
      rfl
    refine pure_ (i := 1) (N := some 75) (v := ?_) (a' := ?_) #[true, true, false, false, false, false, false, false, false, false, false, false, false, false] rfl rfl zb2 (fun _ _ _ h => h) (Or.inl ⟨by rfl, ?_⟩) ?_ ?_
    rotate_left
    · intro w'
      go_simp
      first | with_reducible rfl | rfl
    rotate_left
    · simp only [Act.put, List.setIfInBounds_toArray, List.set_cons_zero, List.set_cons_succ]
      rfl
    refine pure_ (i := 3) (N := some 77) (v := ?_) (a' := ?_) #[true, true, false, true, false, false, false, false, false, false, false, false, false, false] rfl rfl zb2 (fun _ _ _ h => h) (Or.inl ⟨by rfl, ?_⟩) ?_ ?_
    rotate_left
    · intro w'
      go_simp
      first | with_reducible rfl | rfl
    rotate_left
    · simp only [Act.put, List.setIfInBounds_toArray, List.set_cons_zero, List.set_cons_succ]
      rfl
    refine pure_ (i := 6) (N := some 80) (v := ?_) (a' := ?_) #[true, true, false, true, false, false, true, false, false, false, false, false, false, false] rfl rfl zb2 (fun _ _ _ h => h) (Or.inl ⟨by rfl, ?_⟩) ?_ ?_
    rotate_left
    · intro w'
      go_simp
      first | with_reducible rfl | rfl
    rotate_left
    · simp only [Act.put, List.setIfInBounds_toArray, List.set_cons_zero, List.set_cons_succ]
      rfl
    refine pure_ (i := 7) (N := some 81) (v := ?_) (a' := ?_) #[true, true, false, true, false, false, true, true, false, false, false, false, false, false] rfl rfl zb2 (fun _ _ _ h => h) (Or.inl ⟨by rfl, ?_⟩) ?_ ?_
    rotate_left
    · intro w'
      go_simp
      first | with_reducible rfl | rfl
    rotate_left
    · simp only [Act.put, List.setIfInBounds_toArray, List.set_cons_zero, List.set_cons_succ]
      rfl
    refine pure_ (i := 9) (N := some 83) (v := ?_) (a' := ?_) #[true, true, false, true, false, false, true, true, false, true, false, false, false, false] rfl rfl zb2 (fun _ _ _ h => h) (Or.inl ⟨by rfl, ?_⟩) ?_ ?_
    rotate_left
    · intro w'
      go_simp
      first | with_reducible rfl | rfl
    rotate_left
    · simp only [Act.put, List.setIfInBounds_toArray, List.set_cons_zero, List.set_cons_succ]
      rfl
    refine take_ (i := 2) (N := some 76) (v := ?_) (a' := ?_) #[true, true, true, true, false, false, true, true, false, true, false, false, false, false] rfl rfl zb2 (fun _ _ _ h => h) (Or.inl ⟨by rfl, ?_⟩) hHeld ?_ ?_
    rotate_left
    · intro w' hs
      have cs : w'.cell? ⟨w.heap.size, 1, none⟩ = some (.string a) := cell_at hs 1
      go_simp
      first | with_reducible rfl | rfl
    rotate_left
    · simp only [Act.put, List.setIfInBounds_toArray, List.set_cons_zero, List.set_cons_succ]
      rfl
    refine take_ (i := 4) (N := some 78) (v := ?_) (a' := ?_) #[true, true, true, true, true, false, true, true, false, true, false, false, false, false] rfl rfl zb2 (fun _ _ _ h => h) (Or.inl ⟨by rfl, ?_⟩) hHeld ?_ ?_
    rotate_left
    · intro w' hs
      have cs : w'.cell? ⟨w.heap.size, 2, none⟩ = some (.string b) := cell_at hs 2
      go_simp
      first | with_reducible rfl | rfl
    rotate_left
    · simp only [Act.put, List.setIfInBounds_toArray, List.set_cons_zero, List.set_cons_succ]
      rfl
    refine take_ (i := 8) (N := some 82) (v := ?_) (a' := ?_) #[true, true, true, true, true, false, true, true, true, true, false, false, false, false] rfl rfl zb2 (fun _ _ _ h => h) (Or.inl ⟨by rfl, ?_⟩) hHeld ?_ ?_
    rotate_left
    · intro w' hs
      have cs : w'.cell? ⟨w.heap.size, 1, none⟩ = some (.string a) := cell_at hs 1
      go_simp
      first | with_reducible rfl | rfl
    rotate_left
    · simp only [Act.put, List.setIfInBounds_toArray, List.set_cons_zero, List.set_cons_succ]
      rfl
    refine take_ (i := 10) (N := some 84) (v := ?_) (a' := ?_) #[true, true, true, true, true, false, true, true, true, true, true, false, false, false] rfl rfl zb2 (fun _ _ _ h => h) (Or.inl ⟨by rfl, ?_⟩) hHeld ?_ ?_
    rotate_left
    · intro w' hs
      have cs : w'.cell? ⟨w.heap.size, 2, none⟩ = some (.string b) := cell_at hs 2
      go_simp
      first | with_reducible rfl | rfl
    rotate_left
    · simp only [Act.put, List.setIfInBounds_toArray, List.set_cons_zero, List.set_cons_succ]
      rfl
    refine one_ (i := 5) (N := some 79) #[true, true, true, true, true, true, true, true, true, true, true, false, false, false] rfl rfl zb2 zb8 (fun K hK => ?_)
    refine goes_ Try.func35 zb2 rfl #[.pointer (some ⟨bp, 0, none⟩), .string a, .string b] (by rfl) rfl rfl zb7 ?_
    refine HP.out.mono ?_
    rintro e w1 ⟨rfl, hp1, ht1⟩
    have HP1 := Lib.hid hp1
    have HT1 := Lib.hid ht1
    have hb1 := HB.out _ ht1
    refine ⟨_, rfl, ?_⟩
    refine hK.out _ _ hb1 (fun hHeld => ?_)
    clear hK K hp1 ht1 hb1
    refine norm_ (a' := ?_) ?_ ?_
    rotate_left
    · show Act.put _ (some 79) _ = _
      simp only [Act.put, List.setIfInBounds_toArray, List.set_cons_zero, List.set_cons_succ]
      rfl
    refine one_ (i := 11) (N := some 85) #[true, true, true, true, true, true, true, true, true, true, true, true, false, false] rfl rfl zb2 zb8 (fun K hK => ?_)
    refine goes_ Try.func36 zb2 rfl #[.pointer (some ⟨br, 0, none⟩), .string a, .string b] (by rfl) rfl rfl zb7 ?_
    refine (HR.out _ HT1.out).mono ?_
    rintro e w3 ⟨rfl, hr3, ht3⟩
    have HR3 := Lib.hid hr3
    have HT3 := Lib.hid ht3
    have hb3 := HB3.out _ _ HT1.out ht3
    refine ⟨_, rfl, ?_⟩
    refine hK.out _ _ hb3 (fun hHeld => ?_)
    clear hK K hr3 ht3 hb3
    refine norm_ (a' := ?_) ?_ ?_
    rotate_left
    · show Act.put _ (some 85) _ = _
      simp only [Act.put, List.setIfInBounds_toArray, List.set_cons_zero, List.set_cons_succ]
      rfl
    refine pure_ (i := 12) (N := some 86) (v := ?_) (a' := ?_) #[true, true, true, true, true, true, true, true, true, true, true, true, true, false] rfl rfl zb2 (fun _ _ _ h => h) (Or.inl ⟨by rfl, ?_⟩) ?_ ?_
    rotate_left
    · intro w'
      go_simp
      first | with_reducible rfl | rfl
    rotate_left
    · simp only [Act.put, List.setIfInBounds_toArray, List.set_cons_zero, List.set_cons_succ]
      rfl
    refine pure_ (i := 13) (N := some 6) (v := ?_) (a' := ?_) #[true, true, true, true, true, true, true, true, true, true, true, true, true, true] rfl rfl zb2 (fun _ _ _ h => h) (Or.inl ⟨by rfl, ?_⟩) ?_ ?_
    rotate_left
    · intro w'
      go_simp
      first | with_reducible rfl | rfl
    rotate_left
    · simp only [Act.put, List.setIfInBounds_toArray, List.set_cons_zero, List.set_cons_succ]
      rfl
    refine done_ zb2 ?_
    go_wp2
    go_ret
    obtain ⟨h1, h2⟩ := HFIN.out _ _ _ _ HP1.out HT1.out HR3.out HT3.out
    exact ⟨_, rfl, h1, h2⟩
set_option maxRecDepth 100000 in
set_option maxHeartbeats 4000000 in
theorem same_remove (q k n mm : Int) (a b s : ByteArray) (hq : bits BinOp.and IntKind.i64 q 15 = k) (hk : k = 8) (h : Two w bp br m mr H) (hi : Inv C m) (hir : Inv C mr) (hC : C ≤ 10000000) (ha : a.size ≤ 100000000000000) :
    Calls Try.prog 12 #[.pointer (some ⟨bp, 0, none⟩), .pointer (some ⟨br, 0, none⟩), .agg #[.int .i64 q, .string a, .string b, .string s, .int .i64 n, .int .i64 mm]] w fun e w' => ∃ z, e = .returned (.bool z) ∧ Two w' bp br (remove m a.data.toList).2 (remove mr a.data.toList).2 (grow H w w') ∧ Tch H w w' := by
  obtain ⟨F, G, hp, hr, hd, hF, hH⟩ := h
  have hFl : ∀ i, F i → i < w.heap.size := fun i hi => hH i (hF i (.inl hi))
  have hGl : ∀ i, G i → i < w.heap.size := fun i hi => hH i (hF i (.inr hi))
  have T0 := Lib.hid (show Tch (fun _ => False) w (w.alloc (.cells #[.int .i64 q, .string a, .string b, .string s, .int .i64 n, .int .i64 mm] 37)).drew from (Tch.alloc _ w _).drewA)
  have HP := Lib.hid (Remove_calls (w := (w.alloc (.cells #[.int .i64 q, .string a, .string b, .string s, .int .i64 n, .int .i64 mm] 37)).drew) a (hp.next T0.out (fun _ _ _ h => h)) hi hC ha)
  have HR := Lib.hid (fun (w1 : World) (t1 : Tch F (w.alloc (.cells #[.int .i64 q, .string a, .string b, .string s, .int .i64 n, .int .i64 mm] 37)).drew w1) => RemoveR_calls a ((hr.next T0.out (fun _ _ _ h => h)).next t1 (fun i hg _ hf => hd i hf hg)) hir zb6)
  have HB := Lib.hid (fun (w1 : World) (t1 : Tch F (w.alloc (.cells #[.int .i64 q, .string a, .string b, .string s, .int .i64 n, .int .i64 mm] 37)).drew w1) => box_keep t1 hFl)
  have HB3 := Lib.hid (fun (w1 w3 : World) (t1 : Tch F (w.alloc (.cells #[.int .i64 q, .string a, .string b, .string s, .int .i64 n, .int .i64 mm] 37)).drew w1) (t3 : Tch G w1 w3) => t3.keep (box_keep t1 hFl) (fun hg => by have := hGl _ hg; omega))
  have HFIN := Lib.hid (fun (w1 w3 : World) (m' mr' : Mach) (hp1 : Plate w1 bp m' (grow F (w.alloc (.cells #[.int .i64 q, .string a, .string b, .string s, .int .i64 n, .int .i64 mm] 37)).drew w1)) (t1 : Tch F (w.alloc (.cells #[.int .i64 q, .string a, .string b, .string s, .int .i64 n, .int .i64 mm] 37)).drew w1) (hr3 : RPlate w3 br mr' (grow G w1 w3)) (t3 : Tch G w1 w3) => two_done hd hF hH T0.out hp1 t1 (Tch.refl _ _) hr3 t3)
  clear hp hr hd hF hH hFl hGl
  rcases hk with rfl
  all_goals
    go_enter Try.func12, Try.ntmps12
    go_wp2
    refine start_ (n := 10) (S := fun w' => w'.heap[w.heap.size]? = some (.cells #[.int .i64 q, .string a, .string b, .string s, .int .i64 n, .int .i64 mm] 37 (0, 0))) (ds := []) #[false, false, false, false, false, false, false, false, false, false] zb2 rfl rfl (alloc_new w _) (fun hHeld => ?_)
    refine pure_ (i := 0) (N := some 90) (v := ?_) (a' := ?_) #[true, false, false, false, false, false, false, false, false, false] rfl rfl zb2 (fun _ _ _ h => h) (Or.inl ⟨by rfl, ?_⟩) ?_ ?_
    rotate_left
    · intro w'
      go_simp
      first | with_reducible rfl | rfl
    rotate_left
    · simp only [Act.put, List.setIfInBounds_toArray, List.set_cons_zero, List.set_cons_succ]
      rfl
    refine pure_ (i := 1) (N := some 91) (v := ?_) (a' := ?_) #[true, true, false, false, false, false, false, false, false, false] rfl rfl zb2 (fun _ _ _ h => h) (Or.inl ⟨by rfl, ?_⟩) ?_ ?_
    rotate_left
    · intro w'
      go_simp
      first | with_reducible rfl | rfl
    rotate_left
    · simp only [Act.put, List.setIfInBounds_toArray, List.set_cons_zero, List.set_cons_succ]
      rfl
    refine pure_ (i := 4) (N := some 94) (v := ?_) (a' := ?_) #[true, true, false, false, true, false, false, false, false, false] rfl rfl zb2 (fun _ _ _ h => h) (Or.inl ⟨by rfl, ?_⟩) ?_ ?_
    rotate_left
    · intro w'
      go_simp
      first | with_reducible rfl | rfl
    rotate_left
    · simp only [Act.put, List.setIfInBounds_toArray, List.set_cons_zero, List.set_cons_succ]
      rfl
    refine pure_ (i := 5) (N := some 95) (v := ?_) (a' := ?_) #[true, true, false, false, true, true, false, false, false, false] rfl rfl zb2 (fun _ _ _ h => h) (Or.inl ⟨by rfl, ?_⟩) ?_ ?_
    rotate_left
    · intro w'
      go_simp
      first | with_reducible rfl | rfl
    rotate_left
    · simp only [Act.put, List.setIfInBounds_toArray, List.set_cons_zero, List.set_cons_succ]
      rfl
    refine take_ (i := 2) (N := some 92) (v := ?_) (a' := ?_) #[true, true, true, false, true, true, false, false, false, false] rfl rfl zb2 (fun _ _ _ h => h) (Or.inl ⟨by rfl, ?_⟩) hHeld ?_ ?_
    rotate_left
    · intro w' hs
      have cs : w'.cell? ⟨w.heap.size, 1, none⟩ = some (.string a) := cell_at hs 1
      go_simp
      first | with_reducible rfl | rfl
    rotate_left
    · simp only [Act.put, List.setIfInBounds_toArray, List.set_cons_zero, List.set_cons_succ]
      rfl
    refine take_ (i := 6) (N := some 96) (v := ?_) (a' := ?_) #[true, true, true, false, true, true, true, false, false, false] rfl rfl zb2 (fun _ _ _ h => h) (Or.inl ⟨by rfl, ?_⟩) hHeld ?_ ?_
    rotate_left
    · intro w' hs
      have cs : w'.cell? ⟨w.heap.size, 1, none⟩ = some (.string a) := cell_at hs 1
      go_simp
      first | with_reducible rfl | rfl
    rotate_left
    · simp only [Act.put, List.setIfInBounds_toArray, List.set_cons_zero, List.set_cons_succ]
      rfl
    refine one_ (i := 3) (N := some 93) #[true, true, true, true, true, true, true, false, false, false] rfl rfl zb2 zb8 (fun K hK => ?_)
    refine goes_ Try.func37 zb2 rfl #[.pointer (some ⟨bp, 0, none⟩), .string a] (by rfl) rfl rfl zb7 ?_
    refine HP.out.mono ?_
    rintro e w1 ⟨rfl, hp1, ht1⟩
    have HP1 := Lib.hid hp1
    have HT1 := Lib.hid ht1
    have hb1 := HB.out _ ht1
    refine ⟨_, rfl, ?_⟩
    refine hK.out _ _ hb1 (fun hHeld => ?_)
    clear hK K hp1 ht1 hb1
    refine norm_ (a' := ?_) ?_ ?_
    rotate_left
    · show Act.put _ (some 93) _ = _
      simp only [Act.put, List.setIfInBounds_toArray, List.set_cons_zero, List.set_cons_succ]
      rfl
    refine one_ (i := 7) (N := some 97) #[true, true, true, true, true, true, true, true, false, false] rfl rfl zb2 zb8 (fun K hK => ?_)
    refine goes_ Try.func38 zb2 rfl #[.pointer (some ⟨br, 0, none⟩), .string a] (by rfl) rfl rfl zb7 ?_
    refine (HR.out _ HT1.out).mono ?_
    rintro e w3 ⟨rfl, hr3, ht3⟩
    have HR3 := Lib.hid hr3
    have HT3 := Lib.hid ht3
    have hb3 := HB3.out _ _ HT1.out ht3
    refine ⟨_, rfl, ?_⟩
    refine hK.out _ _ hb3 (fun hHeld => ?_)
    clear hK K hr3 ht3 hb3
    refine norm_ (a' := ?_) ?_ ?_
    rotate_left
    · show Act.put _ (some 97) _ = _
      simp only [Act.put, List.setIfInBounds_toArray, List.set_cons_zero, List.set_cons_succ]
      rfl
    refine pure_ (i := 8) (N := some 98) (v := ?_) (a' := ?_) #[true, true, true, true, true, true, true, true, true, false] rfl rfl zb2 (fun _ _ _ h => h) (Or.inl ⟨by rfl, ?_⟩) ?_ ?_
    rotate_left
    · intro w'
      go_simp
      first | with_reducible rfl | rfl
    rotate_left
    · simp only [Act.put, List.setIfInBounds_toArray, List.set_cons_zero, List.set_cons_succ]
      rfl
    refine pure_ (i := 9) (N := some 6) (v := ?_) (a' := ?_) #[true, true, true, true, true, true, true, true, true, true] rfl rfl zb2 (fun _ _ _ h => h) (Or.inl ⟨by rfl, ?_⟩) ?_ ?_
    rotate_left
    · intro w'
      go_simp
      first | with_reducible rfl | rfl
    rotate_left
    · simp only [Act.put, List.setIfInBounds_toArray, List.set_cons_zero, List.set_cons_succ]
      rfl
    refine done_ zb2 ?_
    go_wp2
    go_ret
    obtain ⟨h1, h2⟩ := HFIN.out _ _ _ _ HP1.out HT1.out HR3.out HT3.out
    exact ⟨_, rfl, h1, h2⟩
set_option maxRecDepth 100000 in
set_option maxHeartbeats 4000000 in
theorem same_syncDir (q k n mm : Int) (a b s : ByteArray) (hq : bits BinOp.and IntKind.i64 q 15 = k) (hk : k = 9) (h : Two w bp br m mr H) (hi : Inv C m) (hir : Inv C mr) (hC : C ≤ 10000000) :
    Calls Try.prog 12 #[.pointer (some ⟨bp, 0, none⟩), .pointer (some ⟨br, 0, none⟩), .agg #[.int .i64 q, .string a, .string b, .string s, .int .i64 n, .int .i64 mm]] w fun e w' => ∃ z, e = .returned (.bool z) ∧ Two w' bp br (syncDir m).2 (syncDir mr).2 (grow H w w') ∧ Tch H w w' := by
  obtain ⟨F, G, hp, hr, hd, hF, hH⟩ := h
  have hFl : ∀ i, F i → i < w.heap.size := fun i hi => hH i (hF i (.inl hi))
  have hGl : ∀ i, G i → i < w.heap.size := fun i hi => hH i (hF i (.inr hi))
  have T0 := Lib.hid (show Tch (fun _ => False) w (w.alloc (.cells #[.int .i64 q, .string a, .string b, .string s, .int .i64 n, .int .i64 mm] 37)) from (Tch.alloc _ w _))
  have HP := Lib.hid (SyncDir_calls (w := (w.alloc (.cells #[.int .i64 q, .string a, .string b, .string s, .int .i64 n, .int .i64 mm] 37))) (hp.next T0.out (fun _ _ _ h => h)) hi)
  have HR := Lib.hid (fun (w1 : World) (t1 : Tch F (w.alloc (.cells #[.int .i64 q, .string a, .string b, .string s, .int .i64 n, .int .i64 mm] 37)) w1) => SyncDirR_calls ((hr.next T0.out (fun _ _ _ h => h)).next t1 (fun i hg _ hf => hd i hf hg)) hir zb6)
  have HB := Lib.hid (fun (w1 : World) (t1 : Tch F (w.alloc (.cells #[.int .i64 q, .string a, .string b, .string s, .int .i64 n, .int .i64 mm] 37)) w1) => box_keep0 t1 hFl)
  have HB3 := Lib.hid (fun (w1 w3 : World) (t1 : Tch F (w.alloc (.cells #[.int .i64 q, .string a, .string b, .string s, .int .i64 n, .int .i64 mm] 37)) w1) (t3 : Tch G w1 w3) => t3.keep (box_keep0 t1 hFl) (fun hg => by have := hGl _ hg; omega))
  have HFIN := Lib.hid (fun (w1 w3 : World) (m' mr' : Mach) (hp1 : Plate w1 bp m' (grow F (w.alloc (.cells #[.int .i64 q, .string a, .string b, .string s, .int .i64 n, .int .i64 mm] 37)) w1)) (t1 : Tch F (w.alloc (.cells #[.int .i64 q, .string a, .string b, .string s, .int .i64 n, .int .i64 mm] 37)) w1) (hr3 : RPlate w3 br mr' (grow G w1 w3)) (t3 : Tch G w1 w3) => two_done hd hF hH T0.out hp1 t1 (Tch.refl _ _) hr3 t3)
  clear hp hr hd hF hH hFl hGl
  rcases hk with rfl
  all_goals
    go_enter Try.func12, Try.ntmps12
    go_wp2_with (first
      | (go_at_call 17; refine HP.out.mono ?_; rintro e w1 ⟨rfl, hp1, ht1⟩; have HP1 := Lib.hid hp1; have HT1 := Lib.hid ht1; clear hp1 ht1)
      | (go_at_call 39; refine (HR.out _ HT1.out).mono ?_; rintro e w3 ⟨rfl, hr3, ht3⟩; have HR3 := Lib.hid hr3; have HT3 := Lib.hid ht3; clear hr3 ht3)
      | go_in)
    go_wp2
    go_ret
    obtain ⟨h1, h2⟩ := HFIN.out _ _ _ _ HP1.out HT1.out HR3.out HT3.out
    exact ⟨_, rfl, h1, h2⟩
end
end Go.Proofs.Ytblmjnknagpacaa.Pl
