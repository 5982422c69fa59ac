/- Texts of this seat, joined: lemmas and walks that its statements' proofs use. -/
import Derived.Test.YtfpbpakgajddnaaGreatDoorProg
import Derived.Below
import Derived.Deep.Draws
import Derived.Deep.AppendLies
import Derived.Maps.AppendAt
import Derived.OwnWalk
import Derived.Laws.BytesArg
import Derived.Laws.MakeOwn
import Derived.Laws.OwnMore
import Derived.Deep.OwnRows
import Derived.Tactics
import Derived.Lib.ConvBytes
import Derived.Laws.Slices
import Derived.WalkKit
import Derived.KernelRfl
import Derived.RowKit3
import Derived.Deep.LoopGhost
import Derived.Deep.QuietTactic
import Derived.BigQuiet
import Derived.WideLaws
import Derived.Deep.DeepCutAuto
import Derived.Deep.CutBlock
import Derived.Deep.RegionHeld3
import Derived.Laws.Rows
import Derived.Lib.AppendStr
import Derived.ArgAppend
import Derived.Laws.IdiomCopy
import Derived.OrdersHeld
import Derived.Laws.BitsLemmas
import Derived.RowKit
import Derived.WalkMore
import Derived.Test.YtfpbpakgajddnaaGreatDoorK3
import Derived.Test.YtfpbpakgajddnaaGreatDoorK1
import Derived.BigRegion
import Derived.ChangeOld
import Derived.ChangeSame
import Derived.Deep.RegionWith
import Derived.Deep.Slices
import Derived.Defers
import Derived.Ground.GgwProg
import Derived.Ground.GgzProg
import Derived.Ground.SlgmProg
import Derived.Ground.SlmcProg
import Derived.HandedShaped
import Derived.LaidEql
import Derived.LaidLaws
import Derived.Laws.Pointers
import Derived.Laws.RangeAny
import Derived.Laws.StructEq
import Derived.Lib.AtoiAllCases
import Derived.Lib.Hide
import Derived.Lib.ItoaNum
import Derived.Lib.LaidTab
import Derived.Lib.LaidU8
import Derived.Lib.OthersKept
import Derived.Lib.SliceRun
import Derived.Lib.SmallJoins
import Derived.Lib.SplitLaws
import Derived.Lib.UnsafeStr
import Derived.MakeChecks
import Derived.MapKept
import Derived.Maps.Own
import Derived.Maps.OwnSet
import Derived.Maps.RangeRun
import Derived.Maps.RangeWalk
import Derived.Maps.Views
import Derived.OpenShut
import Derived.ProofKit
import Derived.Recover
import Derived.Shelf.Abstract
import Derived.Shelf.GgClosure.StringsIndexFunc
import Derived.Shelf.GgClosure.StringsIndexFuncTop
import Derived.Shelf.LaysC
import Derived.Shelf.LaysM
import Derived.Shelf.SlIter.Nil
import Derived.Shelf.SlMaps.Clone
import Derived.Shelf.Small.Bits
import Derived.Shelf.SortM.Plain
import Derived.Shelf.SortM.SortNone
import Derived.Shelf.Spec.SlicesInsertGrow
import Derived.Shelf.Strconv.Atoi
import Derived.Shelf.Strconv.AtoiAll
import Derived.Shelf.Strconv.AtoiErrFast
import Derived.Shelf.Strconv.AtoiFail
import Derived.Shelf.Strconv.AtoiInnerAll
import Derived.Shelf.Strconv.AtoiLong
import Derived.Shelf.Strconv.Clone
import Derived.Shelf.Strconv.ErrVarAll
import Derived.Shelf.Strconv.Itoa0
import Derived.Shelf.Strconv.Itoa1
import Derived.Shelf.Strconv.Itoa2
import Derived.Shelf.Strconv.Itoa3
import Derived.Shelf.Strconv.Lower
import Derived.Shelf.Strconv.ParseInt10
import Derived.Shelf.Strconv.ParseIntEmpty
import Derived.Shelf.Strconv.ParseUint10
import Derived.Shelf.Strconv.ParseUint10Any
import Derived.Shelf.Strconv.ParseUint10Empty
import Derived.Shelf.Strconv.RangeError
import Derived.Shelf.Strconv.SyntaxError
import Derived.Shelf.Strconv.ToError
import Derived.Shelf.Strconv.ToErrorRange
import Derived.Shelf.Strings.Builder1
import Derived.Shelf.Strings.Builder2
import Derived.Shelf.Strings.BuilderF
import Derived.Shelf.Strings.BuilderK
import Derived.Shelf.Strings.Count
import Derived.Shelf.Strings.OnBuilder
import Derived.Shelf.Strings.Prefix
import Derived.Shelf.Strings.Search1
import Derived.Shelf.Strings.Search2
import Derived.Shelf.Strings.Search3
import Derived.Shelf.Strings.Shaped
import Derived.Shelf.Strings.Split
import Derived.Shelf.Unicode.DecodeSlow
import Derived.Sort.KeysCollected
import Derived.WalkSmall
import Derived.WideAt
import Derived.WideShapes
import Derived.Test.YtfpbpakgajddnaaGreatDoorK2
import Derived.Test.YtfpbpakgajddnaaGreatDoorK0
/- Px0 -/
namespace Go.Proofs.YtfpbpakgajddnaaGreatDoor.P
open Go.Proofs.YtfpbpakgajddnaaGreatDoor.B
open Go.RowKit Go.Proofs.YtfpbpakgajddnaaGreatDoorW.PrintWords Go.Proofs.YtfpbpakgajddnaaGreatDoorW.PrintLast Go.Proofs.YtfpbpakgajddnaaGreatDoorW.PrintMore
attribute [local go_sem] run_store_float str_leq str_gtr str_geq max2_int min2_int max_two min_two max_three min_three max_four min_four
set_option linter.unusedVariables false
set_option linter.unusedSimpArgs false
def errW : Option Int → Value
  | none => .nilIface
  | some c => .iface 0 (.int .i64 c)
theorem errW_none : errW none = .nilIface := rfl
theorem errW_some (c : Int) : errW (some c) = .iface 0 (.int .i64 c) := rfl
theorem info9 : (Tryz.prog.info? 9).map (fun i => (i.zero, i.size, i.bytes)) = some (some (.string ⟨#[]⟩), 1, 16) := by kernel_rfl
theorem info28 : (Tryz.prog.info? 28).map (fun i => (i.zero, i.size, i.bytes)) = some (some (.agg #[(.string ⟨#[]⟩), (.string ⟨#[]⟩)]), 2, 32) := by kernel_rfl
theorem info120 : (Tryz.prog.info? 120).map (fun i => (i.zero, i.size, i.bytes)) = some (some (.agg #[(.string ⟨#[]⟩), (.string ⟨#[]⟩), (.int .i64 0), (.int .i64 0)]), 4, 48) := by kernel_rfl
structure S120 where
  f0 : ByteArray
  f1 : ByteArray
  f2 : Int
  f3 : Int
def z120 : S120 := ⟨(⟨#[]⟩ : ByteArray), (⟨#[]⟩ : ByteArray), (0 : Int), (0 : Int)⟩
def k120 : Kd S120 := Kd.iso (Kd.pair Kd.string (Kd.pair Kd.string (Kd.pair (Kd.int .i64) (Kd.int .i64)))) (fun x : S120 => (x.f0, x.f1, x.f2, x.f3))
theorem k120_open {w : World} {x : S120} {cs : List Value} (h : k120.K w x cs) : cs = [.string x.f0, .string x.f1, .int .i64 x.f2, .int .i64 x.f3] := by
  obtain ⟨_, _, rfl, rfl, ⟨_, _, rfl, rfl, ⟨_, _, rfl, rfl, rfl⟩⟩⟩ := h
  exact rfl
theorem k120_openM {w : World} {base : Nat} {ok : Nat → Prop} {x : S120} {cs : List Value} (h : k120.M w base ok x cs) : cs = [.string x.f0, .string x.f1, .int .i64 x.f2, .int .i64 x.f3] := by
  obtain ⟨_, _, rfl, rfl, ⟨_, _, rfl, rfl, ⟨_, _, rfl, rfl, rfl⟩⟩⟩ := h
  exact rfl
theorem k120_mk (w : World) (x : S120)  : k120.K w x [.string x.f0, .string x.f1, .int .i64 x.f2, .int .i64 x.f3] := ⟨[.string x.f0], [.string x.f1, .int .i64 x.f2, .int .i64 x.f3], rfl, rfl, ⟨[.string x.f1], [.int .i64 x.f2, .int .i64 x.f3], rfl, rfl, ⟨[.int .i64 x.f2], [.int .i64 x.f3], rfl, rfl, rfl⟩⟩⟩
theorem k120_mkM (w : World) (base : Nat) (ok : Nat → Prop) (x : S120)  : k120.M w base ok x [.string x.f0, .string x.f1, .int .i64 x.f2, .int .i64 x.f3] := ⟨[.string x.f0], [.string x.f1, .int .i64 x.f2, .int .i64 x.f3], rfl, rfl, ⟨[.string x.f1], [.int .i64 x.f2, .int .i64 x.f3], rfl, rfl, ⟨[.int .i64 x.f2], [.int .i64 x.f3], rfl, rfl, rfl⟩⟩⟩
def rd_T120 (xs : List S120) (i : Int) : S120 := xs.getD i.toNat z120
theorem at_T120 {w : World} {A : Option Addr} {n : Nat} {xs : List S120} (h : Kd.C k120 w A n xs) (i : Int) (h0 : 0 ≤ i) (h1 : i < n) : ∃ ad , A = some ad ∧ w.cell? (ad.add (i.toNat * 4)) = some (.string (rd_T120 xs i).f0) ∧ w.cell? ⟨(ad.add (i.toNat * 4)).block, (ad.add (i.toNat * 4)).off + 1, none⟩ = some (.string (rd_T120 xs i).f1) ∧ w.cell? ⟨(ad.add (i.toNat * 4)).block, (ad.add (i.toNat * 4)).off + 2, none⟩ = some (.int .i64 (rd_T120 xs i).f2) ∧ w.cell? ⟨(ad.add (i.toNat * 4)).block, (ad.add (i.toNat * 4)).off + 3, none⟩ = some (.int .i64 (rd_T120 xs i).f3) := by
  obtain ⟨ad, c, e, _, hK, hc0⟩ := Kd.C_get h z120 i h0 h1
  have hc : ∀ j u, c[j]? = some u → w.cell? (ad.add (i.toNat * 4 + j)) = some u := hc0
  obtain rfl := k120_open hK
  exact ⟨ad, e, hc 0 _ rfl, by rw [← add_field _ _ 1 (by omega)]; exact hc 1 _ rfl, by rw [← add_field _ _ 2 (by omega)]; exact hc 2 _ rfl, by rw [← add_field _ _ 3 (by omega)]; exact hc 3 _ rfl⟩
structure S28 where
  f0 : ByteArray
  f1 : ByteArray
def z28 : S28 := ⟨(⟨#[]⟩ : ByteArray), (⟨#[]⟩ : ByteArray)⟩
def k28 : Kd S28 := Kd.iso (Kd.pair Kd.string Kd.string) (fun x : S28 => (x.f0, x.f1))
theorem k28_open {w : World} {x : S28} {cs : List Value} (h : k28.K w x cs) : cs = [.string x.f0, .string x.f1] := by
  obtain ⟨_, _, rfl, rfl, rfl⟩ := h
  exact rfl
theorem k28_openM {w : World} {base : Nat} {ok : Nat → Prop} {x : S28} {cs : List Value} (h : k28.M w base ok x cs) : cs = [.string x.f0, .string x.f1] := by
  obtain ⟨_, _, rfl, rfl, rfl⟩ := h
  exact rfl
theorem k28_mk (w : World) (x : S28)  : k28.K w x [.string x.f0, .string x.f1] := ⟨[.string x.f0], [.string x.f1], rfl, rfl, rfl⟩
theorem k28_mkM (w : World) (base : Nat) (ok : Nat → Prop) (x : S28)  : k28.M w base ok x [.string x.f0, .string x.f1] := ⟨[.string x.f0], [.string x.f1], rfl, rfl, rfl⟩
def rd_T28 (xs : List S28) (i : Int) : S28 := xs.getD i.toNat z28
theorem at_T28 {w : World} {A : Option Addr} {n : Nat} {xs : List S28} (h : Kd.C k28 w A n xs) (i : Int) (h0 : 0 ≤ i) (h1 : i < n) : ∃ ad , A = some ad ∧ w.cell? (ad.add (i.toNat * 2)) = some (.string (rd_T28 xs i).f0) ∧ w.cell? ⟨(ad.add (i.toNat * 2)).block, (ad.add (i.toNat * 2)).off + 1, none⟩ = some (.string (rd_T28 xs i).f1) := by
  obtain ⟨ad, c, e, _, hK, hc0⟩ := Kd.C_get h z28 i h0 h1
  have hc : ∀ j u, c[j]? = some u → w.cell? (ad.add (i.toNat * 2 + j)) = some u := hc0
  obtain rfl := k28_open hK
  exact ⟨ad, e, hc 0 _ rfl, by rw [← add_field _ _ 1 (by omega)]; exact hc 1 _ rfl⟩
structure S127 where
  f0 : ByteArray
  f1 : Int
def z127 : S127 := ⟨(⟨#[]⟩ : ByteArray), (0 : Int)⟩
structure S97 where
  f0 : ByteArray
  f1 : Int
structure S95 where
  f0 : ByteArray
  f1 : ByteArray
/-- A strings.Builder at block g that holds f0. -/
def IsS152 (w0 W : World) (g : Nat) (f0 : ByteArray) : Prop := Bld 152 5 w0 W g f0
theorem IsS152.new {w0 W : World} {g : Nat} (hb : W.heap[g]? = some (.cells #[.pointer none, .slice none 0 0] 152 (0, 0))) (hg : w0.heap.size ≤ g) : IsS152 w0 W g ⟨#[]⟩ := .inl ⟨hg, .slice none 0 0, hb, ⟨by simp [Lib.byteCells], .inl ⟨rfl, by simp [Lib.byteCells]⟩⟩, by simp [Value.ownBlock]⟩
theorem IsS152.below {w0 W : World} {g : Nat} {f0 : ByteArray} {W1 : World} (h : IsS152 w0 W g f0) (hw : Below W.heap.size W W1) : IsS152 w0 W1 g f0 := Bld.below h hw
theorem IsS152.grown {w0 W : World} {g : Nat} {f0 : ByteArray} {W1 : World} {row : Option Nat} (h : IsS152 w0 W g f0) (hw : W.grownBy W1 row) (hne : ∀ k, row = some k → k ≠ g ∧ ∀ c fz, W.heap[k]? ≠ some (.cells c 5 fz)) : IsS152 w0 W1 g f0 := Bld.grown h hw hne
theorem IsS152.kept {w0 W : World} {g : Nat} {f0 : ByteArray} {W1 : World} {S : Nat → Prop} (h : IsS152 w0 W g f0) (hk : Kept W W1 S) (hne : ∀ k, S k → k ≠ g ∧ ∀ c fz, W.heap[k]? ≠ some (.cells c 5 fz)) : IsS152 w0 W1 g f0 := Bld.kept h hk.2 hne
theorem IsS152.fresh {w0 W : World} {g : Nat} {f0 : ByteArray} (h : IsS152 w0 W g f0) : ∀ k, W.heap.size ≤ k → k ≠ g := fun k hk e => by have := Bld.lt h; omega
theorem IsS152.alloc {w0 W : World} {g : Nat} {f0 : ByteArray} (h : IsS152 w0 W g f0) (o : Obj) : IsS152 w0 (W.alloc o) g f0 := Bld.below h (below_alloc (Below.refl _ _) o)
theorem IsS152.drewN {w0 W : World} {g : Nat} {f0 : ByteArray} (h : IsS152 w0 W g f0) (m : Nat) : IsS152 w0 (W.drewN m) g f0 := h
theorem IsS152.drew {w0 W : World} {g : Nat} {f0 : ByteArray} (h : IsS152 w0 W g f0) : IsS152 w0 W.drew g f0 := h
theorem IsS152.at_ {w0 W : World} {g : Nat} {f0 : ByteArray} {w' : World} {m : Nat} (hq : W.drewN m = w') (h : IsS152 w0 W g f0) : IsS152 w0 w' g f0 := by subst hq; exact IsS152.drewN h m
theorem IsS152.apart {w0 W : World} {g : Nat} {f0 : ByteArray} {α : Type} {d : Kd α} {e : Nat} {base : Nat} {ok : Nat → Prop} {v : Value} {xs : List α} (h : IsS152 w0 W g f0) (ho : d.R e W base ok v xs) (ht : ∀ q, q ∈ e :: d.E → q ≠ 152) : d.R e W base (fun k => ok k ∧ k ≠ g) v xs := by
  obtain ⟨_, hb⟩ := Bld.blk h
  exact Kd.R_types ho hb ht
theorem IsS152.own_ne {w0 W : World} {g : Nat} {f0 : ByteArray} {α : Type} {d : Kd α} {e : Nat} {base : Nat} {ok : Nat → Prop} {v : Value} {xs : List α} (h : IsS152 w0 W g f0) (ho : d.R e W base ok v xs) (ht : e ≠ 152) : some g ≠ v.ownBlock := by
  obtain ⟨_, hb⟩ := Bld.blk h
  exact Kd.R_ne ho hb ht
theorem IsS152.own_far {w0 W : World} {g : Nat} {f0 : ByteArray} {α : Type} {d : Kd α} {e : Nat} {base : Nat} {ok : Nat → Prop} {v : Value} {xs : List α} (h : IsS152 w0 W g f0) (ho : d.R e W base ok v xs) (ht : e ≠ 152 ∧ e ≠ 5) : ∀ k, v.ownBlock = some k → k ≠ g ∧ ∀ c fz, W.heap[k]? ≠ some (.cells c 5 fz) := by
  obtain ⟨inner, hi⟩ := Kd.R_own ho
  exact typed_far (Bld.blk h) hi ht.1 ht.2
theorem IsS152.lt {w0 W : World} {g : Nat} {f0 : ByteArray} (h : IsS152 w0 W g f0) : g < W.heap.size := Bld.lt h
theorem IsS152.ge {w0 W : World} {g : Nat} {f0 : ByteArray} (h : IsS152 w0 W g f0) : w0.heap.size ≤ g := Bld.ge h
theorem IsS152.farB {w0 W : World} {g : Nat} {f0 : ByteArray} {p : Addr} (h : IsS152 w0 W g f0) (hne : g ≠ p.block) {t : Nat} (ht : ∃ c fz, W.heap[p.block]? = some (.cells c t fz)) (hte : t ≠ 5) (u : Value) : IsS152 w0 (W.setCell p u) g f0 := Bld.farB h hne ht hte u
end Go.Proofs.YtfpbpakgajddnaaGreatDoor.P
/- Ab -/
namespace Go.Proofs.YtfpbpakgajddnaaGreatDoor
theorem zb0 {P : Prop} (h : P := by intro h_; simp only [ByteArray.size_append, ByteArray.size_extract, eq_iff_iff, iff_true, iff_false, decide_eq_true_eq] at *; omega) : P := h
theorem zb1 {P : Prop} (h : P := by repeat (first | (with_reducible first | exact HB.out | apply below_alloc | apply pw_below_drewN | apply below_drew1) | exact HB.out)) : P := h
theorem zb2 {P : Prop} (h : P := by first | exact Kd.own_blk (Kd.R_ne HO158.out BK155.out (by decide)) | (rw [add_block]; exact Kd.own_blk (Kd.R_ne HO158.out BK155.out (by decide))) | (show (Addr.add _ _).block ≠ _; rw [add_block]; exact Kd.own_blk (Kd.R_ne HO158.out BK155.out (by decide))) | (dsimp only; exact Kd.own_blk (Kd.R_ne HO158.out BK155.out (by decide)))) : P := h
theorem zb3 {P : Prop} (h : P := by (try simp only [List.map_toArray, List.map_cons, List.map_nil]); first | done | rfl | (simp only [List.length_drop, List.length_take]; rfl)) : P := h
theorem zb4 {P : Prop} (h : P := by repeat (first | (with_reducible first | exact HB.out | apply below_alloc | apply pw_below_drewN | apply below_drew1 | refine below_set ?_ GE155.out) | exact HB.out)) : P := h
theorem zb5 {P : Prop} (h : P := by first | (with_reducible assumption) | assumption) : P := h
theorem zb6 {P : Prop} (h : P := by (with_reducible repeat (first | refine blk_drewN ?_ _ | refine blk_drew ?_ | refine blk_alloc ?_ _)); refine blk_put (cs := #[.string (rdOf ByteArray.empty t156 0), .string (rdOf ByteArray.empty t156 1), .int .i64 t160, .int .i64 0]) ?_ 3 _ rfl; (with_reducible repeat (first | refine blk_drewN ?_ _ | refine blk_drew ?_ | refine blk_alloc ?_ _)); refine blk_put (cs := #[.string (rdOf ByteArray.empty t156 0), .string (rdOf ByteArray.empty t156 1), .int .i64 0, .int .i64 0]) ?_ 2 _ rfl; (with_reducible repeat (first | refine blk_drewN ?_ _ | refine blk_drew ?_ | refine blk_alloc ?_ _)); refine blk_put (cs := #[.string (rdOf ByteArray.empty t156 0), .string (⟨#[]⟩ : ByteArray), .int .i64 0, .int .i64 0]) ?_ 1 _ rfl; (with_reducible repeat (first | refine blk_drewN ?_ _ | refine blk_drew ?_ | refine blk_alloc ?_ _)); refine blk_put (cs := #[.string (⟨#[]⟩ : ByteArray), .string (⟨#[]⟩ : ByteArray), .int .i64 0, .int .i64 0]) ?_ 0 _ rfl; (with_reducible repeat (first | refine blk_drewN ?_ _ | refine blk_drew ?_ | refine blk_alloc ?_ _)); exact BK155.out) : P := h
theorem zb7 {P : Prop} (h : P := by (with_reducible repeat (first | refine blk_drewN ?_ _ | refine blk_drew ?_ | refine blk_alloc ?_ _)); refine blk_put (cs := #[.string ((rd_T120 l1 x21_1).f0), .string ((rd_T120 l1 x21_1).f1), .int .i64 ((rd_T120 l1 x21_1).f2), .int .i64 0]) ?_ 3 _ rfl; (with_reducible repeat (first | refine blk_drewN ?_ _ | refine blk_drew ?_ | refine blk_alloc ?_ _)); refine blk_put (cs := #[.string ((rd_T120 l1 x21_1).f0), .string ((rd_T120 l1 x21_1).f1), .int .i64 0, .int .i64 0]) ?_ 2 _ rfl; (with_reducible repeat (first | refine blk_drewN ?_ _ | refine blk_drew ?_ | refine blk_alloc ?_ _)); refine blk_put (cs := #[.string ((rd_T120 l1 x21_1).f0), .string (⟨#[]⟩ : ByteArray), .int .i64 0, .int .i64 0]) ?_ 1 _ rfl; (with_reducible repeat (first | refine blk_drewN ?_ _ | refine blk_drew ?_ | refine blk_alloc ?_ _)); refine blk_put (cs := #[.string (⟨#[]⟩ : ByteArray), .string (⟨#[]⟩ : ByteArray), .int .i64 0, .int .i64 0]) ?_ 0 _ rfl; (with_reducible repeat (first | refine blk_drewN ?_ _ | refine blk_drew ?_ | refine blk_alloc ?_ _)); exact BK124.out) : P := h
theorem zb8 {P : Prop} (h : P := by repeat (first | (with_reducible first | exact HB.out | apply below_alloc | apply pw_below_drewN | apply below_drew1 | refine below_set ?_ (IsS152.ge HI112.out) | refine below_set ?_ GE124.out) | exact HB.out)) : P := h
theorem zb9 {P : Prop} (h : P := by (with_reducible repeat (first | refine blk_drewN ?_ _ | refine blk_drew ?_ | refine blk_alloc ?_ _)); refine blk_put (cs := #[.string t193, .string t194, .int .i64 t195, .int .i64 0]) ?_ 3 _ rfl; (with_reducible repeat (first | refine blk_drewN ?_ _ | refine blk_drew ?_ | refine blk_alloc ?_ _)); refine blk_put (cs := #[.string t193, .string t194, .int .i64 0, .int .i64 0]) ?_ 2 _ rfl; (with_reducible repeat (first | refine blk_drewN ?_ _ | refine blk_drew ?_ | refine blk_alloc ?_ _)); refine blk_put (cs := #[.string t193, .string (⟨#[]⟩ : ByteArray), .int .i64 0, .int .i64 0]) ?_ 1 _ rfl; (with_reducible repeat (first | refine blk_drewN ?_ _ | refine blk_drew ?_ | refine blk_alloc ?_ _)); refine blk_put (cs := #[.string (⟨#[]⟩ : ByteArray), .string (⟨#[]⟩ : ByteArray), .int .i64 0, .int .i64 0]) ?_ 0 _ rfl; (with_reducible repeat (first | refine blk_drewN ?_ _ | refine blk_drew ?_ | refine blk_alloc ?_ _)); exact BK198.out) : P := h
theorem zb10 {P : Prop} (h : P := by kernel_rfl) : P := h
theorem zb11 {P : Prop} (h : P := by repeat (first | (with_reducible first | exact HI112.out | apply IsS152.alloc | apply IsS152.drewN | apply IsS152.drew | refine IsS152.farB ?_ NB112_124.out (by repeat (first | exact ⟨_, _, BK124.out⟩ | apply typ_set | apply typ_alloc | apply typ_drewN | apply typ_drew)) (by decide) _) | exact HI112.out)) : P := h
theorem zb12 {P : Prop} (h : P := by repeat (first | (with_reducible first | exact HB.out | apply below_alloc | apply pw_below_drewN | apply below_drew1 | refine below_set ?_ (IsS152.ge HI112.out)) | exact HB.out)) : P := h
theorem zb13 {P : Prop} (h : P := by omega) : P := h
theorem zb14 {P : Prop} (h : P := by first | rfl | (simp; done) | (simp [*]; done)) : P := h
theorem zb15 {P : Prop} (h : P := by first | rfl | (simp [errW_none, errW_some, bne_nil_] <;> rfl) | (simp [*, errW_none, errW_some] <;> rfl)) : P := h
theorem zb16 {P : Prop} (h : P := by (with_reducible repeat (first | refine blk_drewN ?_ _ | refine blk_drew ?_ | refine blk_alloc ?_ _)); exact BK155.out) : P := h
theorem zb17 {P : Prop} (h : P := by (try simp only [List.map_toArray, List.map_cons, List.map_nil]); first | done | rfl) : P := h
theorem zb18 {P : Prop} (h : P := by repeat (first | (with_reducible first | exact HB.out | apply below_alloc | apply pw_below_drewN | apply below_drew1 | refine below_set ?_ GE211.out) | exact HB.out)) : P := h
theorem zb19 {P : Prop} (h : P := by (with_reducible repeat (first | apply Kd.V_alloc | apply Kd.V_drewN | apply Kd.V_drew)); exact HO_30.out) : P := h
theorem zb20 {P : Prop} (h : P := by repeat (first | (with_reducible first | exact HB.out | apply below_alloc | apply pw_below_drewN | apply below_drew1 | refine below_set ?_ GE450.out | refine below_set ?_ GE451.out | refine below_set ?_ GE452.out) | exact HB.out)) : P := h
theorem zb21 {P : Prop} (h : P := by (with_reducible repeat (first | apply Kd.R_alloc | apply Kd.R_drewN | apply Kd.R_drew)); exact HO_3.out) : P := h
theorem zb22 {P : Prop} (h : P := by repeat (first | exact ⟨_, _, BK124.out⟩ | apply typ_set | apply typ_alloc | apply typ_drewN | apply typ_drew)) : P := h
theorem zb23 {P : Prop} (h : P := by repeat (first | (with_reducible first | exact HI112.out | apply IsS152.alloc | apply IsS152.drewN | apply IsS152.drew) | exact HI112.out)) : P := h
theorem zb24 {P : Prop} (h : P := by (with_reducible repeat (first | refine blk_drewN ?_ _ | refine blk_drew ?_ | refine blk_alloc ?_ _)); exact BK124.out) : P := h
theorem zb25 {P : Prop} (h : P := by decide) : P := h
theorem zb26 {P : Prop} (h : P := by repeat (first | (with_reducible first | exact HB.out | apply below_alloc | apply pw_below_drewN | apply below_drew1 | refine below_set ?_ GE198.out) | exact HB.out)) : P := h
theorem zb27 {P : Prop} (h : P := by (with_reducible repeat (first | refine blk_drewN ?_ _ | refine blk_drew ?_ | refine blk_alloc ?_ _)); exact BK450.out) : P := h
theorem zb28 {P : Prop} (h : P := by (with_reducible repeat (first | apply Kd.R_alloc | apply Kd.R_drewN | apply Kd.R_drew)); exact HO158.out) : P := h
theorem zb29 {P : Prop} (h : P := by (with_reducible repeat (first | apply Kd.R_alloc | apply Kd.R_drewN | apply Kd.R_drew)); exact HO_7.out) : P := h
theorem zb30 {P : Prop} (h : P := by assumption) : P := h
theorem zb31 {P : Prop} (h : P := by (with_reducible repeat (first | apply Kd.R_alloc | apply Kd.R_drewN | apply Kd.R_drew)); exact HO470.out) : P := h
theorem zb32 {P : Prop} (h : P := by (with_reducible repeat (first | refine blk_drewN ?_ _ | refine blk_drew ?_ | refine blk_alloc ?_ _)); refine blk_put (cs := #[.string ((rd_T28 l1 x13_1).f0), .string (⟨#[]⟩ : ByteArray)]) ?_ 1 _ rfl; (with_reducible repeat (first | refine blk_drewN ?_ _ | refine blk_drew ?_ | refine blk_alloc ?_ _)); refine blk_put (cs := #[.string (⟨#[]⟩ : ByteArray), .string (⟨#[]⟩ : ByteArray)]) ?_ 0 _ rfl; (with_reducible repeat (first | refine blk_drewN ?_ _ | refine blk_drew ?_ | refine blk_alloc ?_ _)); exact BK211.out) : P := h
theorem zb33 {P : Prop} (h : P := by (with_reducible repeat (first | apply Kd.V_alloc | apply Kd.V_drewN | apply Kd.V_drew)); exact Kd.V_mono (Kd.V_far (p := ⟨gb198, 3, none⟩) (Kd.V_far (p := ⟨gb198, 2, none⟩) (Kd.V_far (p := ⟨gb198, 1, none⟩) (Kd.V_far (p := ⟨gb198, 0, none⟩) (Kd.V_mono HO_30.out (fun k_ hk => (⟨hk, hk.2⟩ : _ ∧ k_ ≠ gb198))) (fun _ hk => hk.2) (.string t193)) (fun _ hk => hk.2) (.string t194)) (fun _ hk => hk.2) (.int .i64 t195)) (fun _ hk => hk.2) (.int .i64 t196)) (fun _ hk => ⟨hk.1.2, hk.1.1⟩)) : P := h
theorem zb34 {P : Prop} (h : P := by (with_reducible repeat (first | apply Kd.R_alloc | apply Kd.R_drewN | apply Kd.R_drew)); exact Kd.R_mono (Kd.R_far (p := ⟨gb198, 3, none⟩) (Kd.R_far (p := ⟨gb198, 2, none⟩) (Kd.R_far (p := ⟨gb198, 1, none⟩) (Kd.R_far (p := ⟨gb198, 0, none⟩) (Kd.R_mono HO_3.out (fun k_ hk => (⟨hk, hk.2⟩ : _ ∧ k_ ≠ gb198))) (fun _ hk => hk.2) (.string t193)) (fun _ hk => hk.2) (.string t194)) (fun _ hk => hk.2) (.int .i64 t195)) (fun _ hk => hk.2) (.int .i64 t196)) (fun _ hk => hk.1.2)) : P := h
theorem zb35 {P : Prop} (h : P := by simp) : P := h
theorem zb36 {P : Prop} (h : P := by (with_reducible repeat (first | refine blk_drewN ?_ _ | refine blk_drew ?_ | refine blk_alloc ?_ _)); exact BK451.out) : P := h
theorem zb37 {P : Prop} (h : P := by (with_reducible repeat (first | apply Kd.R_alloc | apply Kd.R_drewN | apply Kd.R_drew)); exact HO110.out) : P := h
theorem zb38 {P : Prop} (h : P := by (with_reducible repeat (first | apply Kd.R_alloc | apply Kd.R_drewN | apply Kd.R_drew)); exact Kd.R_mono HO_7.out (fun _ hk => hk.2)) : P := h
theorem zb39 {P : Prop} (h : P := by repeat (first | (with_reducible first | exact HB.out | apply below_alloc | apply pw_below_drewN | apply below_drew1 | refine below_set ?_ GE450.out | refine below_set ?_ GE451.out) | exact HB.out)) : P := h
theorem zb40 {P : Prop} (h : P := by repeat (first | (with_reducible first | exact HB.out | apply below_alloc | apply pw_below_drewN | apply below_drew1 | refine below_set ?_ GE450.out) | exact HB.out)) : P := h
theorem zb41 {P : Prop} (h : P := by simp; omega) : P := h
theorem zb42 {P : Prop} (h : P := by repeat (first | (with_reducible first | exact HK.out | apply Kept.alloc | apply Kept.drewN | apply Kept.drew) | exact HK.out)) : P := h
end Go.Proofs.YtfpbpakgajddnaaGreatDoor
/- Px66 -/
namespace Go.Proofs.YtfpbpakgajddnaaGreatDoor.P
open Go.Proofs.YtfpbpakgajddnaaGreatDoor.B
open Go.RowKit Go.Proofs.YtfpbpakgajddnaaGreatDoorW.PrintWords Go.Proofs.YtfpbpakgajddnaaGreatDoorW.PrintLast Go.Proofs.YtfpbpakgajddnaaGreatDoorW.PrintMore
attribute [local go_sem] run_store_float str_leq str_gtr str_geq max2_int min2_int max_two min_two max_three min_three max_four min_four
set_option linter.unusedVariables false
set_option linter.unusedSimpArgs false
end Go.Proofs.YtfpbpakgajddnaaGreatDoor.P
/- PlRa -/
namespace Go.Proofs.YtfpbpakgajddnaaGreatDoor.Pl
open Go Go.RowKit Go.Maps Go.Proofs.YtfpbpakgajddnaaGreatDoorW.PrintWords
set_option linter.unusedVariables false
set_option linter.unusedSimpArgs false
section
variable {α : Type} {f : α → List Value} {a b : α → Value}
end
theorem wrap_nat (n : Nat) (h : n ≤ 9223372036854775807) : wrap64 (n : Int) = (n : Int) := by unfold wrap64; omega
theorem row_cap {w : World} {base e size n : Nat} {A : Option Addr} {c : Nat} {xs : List Value} (h : w.ownsRow base e size (.slice A n c) n xs) : n ≤ c := by
 rcases h.2 with ⟨h1, h2⟩ | ⟨g, cap, cur, h1, _, _, h2, _⟩
 ·injection h1 with e1 e2 e3
  omega
 ·injection h1 with e1 e2 e3
  omega
end Go.Proofs.YtfpbpakgajddnaaGreatDoor.Pl
/- VaA -/
namespace Go.Proofs.YtfpbpakgajddnaaGreatDoor.Pl
open Go
set_option linter.unusedVariables false
set_option linter.unusedSimpArgs false
/-- A row of the manifest, and a vault: its generation and its rows. -/
structure RowM where
  name : L
  file : L
  size : Nat
  sum : Nat
structure VM where
  n : Nat
  rows : List RowM
def manL : L := [109, 97, 110, 105, 102, 101, 115, 116]
def newL : L := [109, 97, 110, 105, 102, 101, 115, 116, 46, 110, 101, 119]
/-- How manifests are told and read. -/
structure Codec where
  sum : L → Nat
  print : Nat → List RowM → L
  parse : L → Option (Nat × List RowM)
  name : Nat → Nat → L
/-- Which names stay. -/
def VM.keeps (v : VM) (x : L) : Bool := (x == manL && decide (0 < v.n)) || v.rows.any fun r => r.file == x
/-- Names go, in turn, up to the first error. -/
def goAll : List L → Mach → Int × Mach
  | [], m => (0, m)
  | x :: r, m => if (remove m x).1 = 0 then goAll r (remove m x).2 else remove m x
def sweep (v : VM) (m : Mach) : Int × Mach :=
  if ((list m).filter fun x => !v.keeps x) = [] then (0, m)
  else if (goAll ((list m).filter fun x => !v.keeps x) m).1 = 0 then syncDir (goAll ((list m).filter fun x => !v.keeps x) m).2
  else goAll ((list m).filter fun x => !v.keeps x) m
def whole (c : Codec) (m : Mach) (l : List RowM) : Bool := l.all fun r => decide ((read m r.file).2 = 0) && decide ((read m r.file).1.length = r.size) && decide (c.sum (read m r.file).1 = r.sum)
/-- What a plate says: the vault (none: it is nothing that could be). -/
def says (c : Codec) (m : Mach) : Option VM :=
  if (read m manL).2 = 0 then
    match c.parse (read m manL).1 with
    | some (n, l) => if whole c m l then some ⟨n, l⟩ else none
    | none => none
  else some ⟨0, []⟩
def openV (c : Codec) (m : Mach) : Int × Option VM × Mach := match says c m with
  | none => (30, none, m)
  | some v => if (sweep v m).1 = 0 then (0, some v, (sweep v m).2) else ((sweep v m).1, none, (sweep v m).2)
/-- A file with bytes, synced. -/
def put3 (m : Mach) (x s : L) : Int × Mach :=
  if (create m x).1 = 0 then
    if (write (create m x).2 x s).1 = 0 then sync (write (create m x).2 x s).2 x
    else write (create m x).2 x s
  else create m x
/-- A name has a file with these bytes, all of them safe. -/
def HasF (d : Dir) (fs : List Fil) (x s : L) : Prop := ∃ k, (x, k) ∈ d ∧ k < fs.length ∧ fileAt fs k = ⟨s, []⟩
/-- The vault (generation n; rows with their blobs' bytes) lies in a directory. -/
structure Holds (c : Codec) (n : Nat) (D : List (RowM × L)) (d : Dir) (fs : List Fil) : Prop where
  man : 0 < n → HasF d fs manL (c.print n (D.map (·.1)))
  noman : n = 0 → (∀ p ∈ d, p.1 ≠ manL) ∧ D = []
  rows : ∀ p ∈ D, HasF d fs p.1.file p.2 ∧ p.2.length = p.1.size ∧ c.sum p.2 = p.1.sum
def vm (n : Nat) (D : List (RowM × L)) : VM := ⟨n, D.map (·.1)⟩
/-- The files that were there are as they were. -/
def Grow (fs fs' : List Fil) : Prop := fs.length ≤ fs'.length ∧ ∀ k, k < fs.length → fileAt fs' k = fileAt fs k
theorem Grow.refl (fs : List Fil) : Grow fs fs := ⟨Nat.le_refl _, fun _ _ => rfl⟩
theorem Grow.trans {a b c : List Fil} (h : Grow a b) (g : Grow b c) : Grow a c := ⟨Nat.le_trans h.1 g.1, fun k hk => (g.2 k (Nat.lt_of_lt_of_le hk h.1)).trans (h.2 k hk)⟩
/-- A step on another name keeps it. -/
theorem HasF.step {d : Dir} {fs : List Fil} {x s : L} {t : Stp} (h : HasF d fs x s) (hn : t.1 ≠ x) : HasF (put d t) fs x s := by
 obtain ⟨k, h1, h3, h4⟩ := h
 exact ⟨k, mem_put.2 (.inr ⟨h1, fun e => hn e.symm⟩), h3, h4⟩
theorem HasF.steps {fs : List Fil} {x s : L} : ∀ (l : List Stp) {d : Dir}, HasF d fs x s → (∀ t ∈ l, t.1 ≠ x) → HasF (after d l) fs x s
 | [], _, h, _ => h
 | t :: l, d, h, hl => HasF.steps l (d := put d t) (h.step (hl t List.mem_cons_self)) (fun u hu => hl u (List.mem_cons_of_mem _ hu))
theorem HasF.grow {d : Dir} {fs fs' : List Fil} {x s : L} (h : HasF d fs x s) (g : Grow fs fs') : HasF d fs' x s := by
 obtain ⟨k, h1, h3, h4⟩ := h
 exact ⟨k, h1, Nat.lt_of_lt_of_le h3 g.1, (g.2 k h3).trans h4⟩
theorem HasF.crash {d : Dir} {fs : List Fil} {x s : L} (b : Int) (h : HasF d fs x s) : HasF d (fs.map fun f => ⟨f.safe ++ f.loose.take (clamp b f.loose.length), []⟩) x s := by
 obtain ⟨k, h1, h3, h4⟩ := h
 refine ⟨k, h1, by rw [List.length_map]; exact h3, ?_⟩
 rw [fileAt_map _ h3, h4]
 simp
/-- What is read of it. -/
theorem HasF.read {C : Nat} {m : Mach} {x s : L} (hi : Inv C m) (h : HasF m.now m.files x s) : Pl.read m x = (s, 0) := by
 obtain ⟨k, h1, _, h4⟩ := h
 have : m.find x = some k := (look_iff hi.now_sorted).2 h1
 unfold Pl.read
 rw [this]
 simp only
 rw [h4]
 simp [Fil.all]
theorem keeps_row {n : Nat} {D : List (RowM × L)} {p : RowM × L} (hp : p ∈ D) : (vm n D).keeps p.1.file = true := by
 unfold VM.keeps
 rw [Bool.or_eq_true]
 exact .inr (List.any_eq_true.2 ⟨p.1, List.mem_map.2 ⟨p, hp, rfl⟩, by simp⟩)
theorem keeps_man {n : Nat} {D : List (RowM × L)} (hn : 0 < n) : (vm n D).keeps manL = true := by
 unfold VM.keeps vm
 simp [hn]
theorem Holds.map {c : Codec} {n : Nat} {D : List (RowM × L)} {d d' : Dir} {fs fs' : List Fil} (h : Holds c n D d fs) (hk : ∀ x s, (vm n D).keeps x = true → HasF d fs x s → HasF d' fs' x s) (hm : n = 0 → ∀ p ∈ d', p.1 = manL → ∃ q ∈ d, q.1 = manL) : Holds c n D d' fs' := by
 refine ⟨fun hn => hk _ _ (keeps_man hn) (h.man hn), fun hn => ⟨fun p hp he => ?_, (h.noman hn).2⟩, fun p hp => ?_⟩
 ·obtain ⟨q, hq, he2⟩ := hm hn p hp he
  exact (h.noman hn).1 q hq he2
 ·obtain ⟨h1, h2, h3⟩ := h.rows p hp
  exact ⟨hk _ _ (keeps_row hp) h1, h2, h3⟩
/-- Steps on names that it does not need keep it. -/
theorem Holds.steps {c : Codec} {n : Nat} {D : List (RowM × L)} {d : Dir} {fs fs' : List Fil} {l : List Stp} (h : Holds c n D d fs) (g : Grow fs fs') (hl : ∀ t ∈ l, (vm n D).keeps t.1 = false ∧ (t.1 = manL → t.2 = none)) : Holds c n D (after d l) fs' := by
 refine h.map (fun x s hx hf => (hf.steps l (fun t ht e => ?_)).grow g) (fun hn p hp he => ?_)
 ·have := (hl t ht).1
  rw [e, hx] at this
  cases this
 ·rcases mem_after l d p hp with h1 | h1
  ·exact ⟨p, h1, he⟩
  ·have := (hl _ h1).2 he
   cases this
theorem Holds.crash {c : Codec} {n : Nat} {D : List (RowM × L)} {d : Dir} {fs : List Fil} (b : Int) (h : Holds c n D d fs) : Holds c n D d (fs.map fun f => ⟨f.safe ++ f.loose.take (clamp b f.loose.length), []⟩) :=
 h.map (fun _ _ _ hf => hf.crash b) (fun _ p hp he => ⟨p, hp, he⟩)
/-- However many of the steps that are not safe a crash leaves: the vault is there. -/
def Safe (c : Codec) (n : Nat) (D : List (RowM × L)) (m : Mach) : Prop := ∀ j, Holds c n D (after m.safe (m.steps.take j)) m.files
theorem Safe.now {c : Codec} {n : Nat} {D : List (RowM × L)} {m : Mach} (h : Safe c n D m) : Holds c n D m.now m.files := by
 have := h m.steps.length
 rw [List.take_length] at this
 exact this
theorem Safe.more {c : Codec} {n : Nat} {D : List (RowM × L)} {m m' : Mach} {ts : List Stp} (h : Safe c n D m) (hs : m'.safe = m.safe) (ht : m'.steps = m.steps ++ ts) (g : Grow m.files m'.files) (hl : ∀ t ∈ ts, (vm n D).keeps t.1 = false ∧ (t.1 = manL → t.2 = none)) : Safe c n D m' := by
 intro j
 rw [hs, ht, List.take_append, after_append]
 exact (h j).steps g (fun t ht => hl t (List.mem_of_mem_take ht))
theorem Safe.syncDir {c : Codec} {n : Nat} {D : List (RowM × L)} {m : Mach} (h : Safe c n D m) : Safe c n D (syncDir m).2 := by
 unfold Pl.syncDir
 split
 ·exact h
 ·intro j
  show Holds c n D (after m.now (([] : List Stp).take j)) m.files
  rw [List.take_nil]
  exact h.now
theorem Safe.crash {c : Codec} {n : Nat} {D : List (RowM × L)} {m : Mach} (a b : Int) (h : Safe c n D m) : Safe c n D (crash m a b) := by
 intro j
 show Holds c n D (after (after m.safe (m.steps.take (clamp a m.steps.length))) (([] : List Stp).take j)) (m.files.map _)
 rw [List.take_nil]
 exact (h _).crash b
/-- What is read of a row's file. -/
theorem Safe.read {c : Codec} {n C : Nat} {D : List (RowM × L)} {m : Mach} (hi : Inv C m) (h : Safe c n D m) {p : RowM × L} (hp : p ∈ D) : Pl.read m p.1.file = (p.2, 0) := (h.now.rows p hp).1.read hi
/-- What the plate says: this vault. -/
theorem Safe.says {c : Codec} {n C : Nat} {D : List (RowM × L)} {m : Mach} (hi : Inv C m) (h : Safe c n D m) (hback : c.parse (c.print n (D.map (·.1))) = some (n, D.map (·.1))) : Pl.says c m = some (vm n D) := by
 unfold Pl.says
 rcases Nat.eq_zero_or_pos n with hn | hn
 ·obtain ⟨h1, h2⟩ := h.now.noman hn
  have hr : Pl.read m manL = ([], 10) := by
   unfold Pl.read
   rw [show m.find manL = none from look_none.2 (fun k hk => h1 _ hk rfl)]
  rw [hr, if_neg (by decide), hn, h2]
  rfl
 ·have hr := (h.now.man hn).read hi
  rw [hr, if_pos rfl]
  simp only
  rw [hback]
  simp only
  have hw : whole c m (D.map (·.1)) = true := by
   unfold whole
   rw [List.all_map, List.all_eq_true]
   intro p hp
   obtain ⟨_, h2, h3⟩ := h.now.rows p hp
   simp only [Function.comp]
   rw [h.read hi hp]
   simp [h2, h3]
  rw [if_pos hw]
  rfl
theorem Grow.set {fs : List Fil} {B : List Fil} {k : Nat} {f : Fil} (h : Grow B fs) (hk : B.length ≤ k) : Grow B (fs.set k f) :=
 ⟨by rw [List.length_set]; exact h.1, fun j hj => by rw [fileAt_set (by omega)]; exact h.2 j hj⟩
theorem Grow.snoc (fs : List Fil) (f : Fil) : Grow fs (fs ++ [f]) := ⟨by simp, fun k hk => fileAt_app hk⟩
theorem createM_ok {m : Mach} {x : L} (h : (create m x).1 = 0) : (create m x).2 = { m with files := m.files ++ [⟨[], []⟩], steps := m.steps ++ [(x, some m.files.length)], power := spend m.power } ∧ m.power ≠ 0 ∧ nameOk x = true ∧ m.find x = none := by
 unfold create at h ⊢
 split
 ·rename_i h1
  rw [if_pos h1] at h
  simp at h
 ·rename_i h1
  rw [if_neg h1] at h
  split
  ·rename_i h2
   rw [if_pos h2] at h
   simp at h
  ·rename_i h2
   rw [if_neg h2] at h
   split
   ·rename_i h3
    rw [if_pos h3] at h
    simp at h
   ·rename_i h3
    rw [if_neg h3] at h
    split
    ·rename_i h4
     rw [if_pos h4] at h
     simp at h
    ·rename_i h4
     exact ⟨rfl, h4, by cases hn : nameOk x <;> simp_all, by cases hn : m.find x <;> simp_all⟩
theorem createM_bad {m : Mach} {x : L} (h : (create m x).1 ≠ 0) : (create m x).2 = m := by
 unfold create at h ⊢
 (repeat' split) <;> first | rfl | (simp_all)
/-- Behind a file's making: its name has the new key. -/
theorem create_find {C : Nat} {m : Mach} {x : L} (hi : Inv C m) (h : (create m x).1 = 0) : (create m x).2.find x = some m.files.length := by
 have h2 := create_inv hi x
 refine (look_iff h2.now_sorted).2 ?_
 rw [(createM_ok h).1]
 show _ ∈ after m.safe (m.steps ++ [(x, some m.files.length)])
 rw [now_snoc]
 exact mem_put.2 (.inl ⟨rfl, rfl⟩)
theorem write_at {m : Mach} {x s : L} {k : Nat} (hk : m.find x = some k) : (write m x s).2 = m ∧ (write m x s).1 ≠ 0 ∨ (write m x s).1 = 0 ∧ (write m x s).2 = { m with files := m.files.set k ⟨(fileAt m.files k).safe, (fileAt m.files k).loose ++ s⟩, power := spend m.power } := by
 unfold write
 rw [hk]
 simp only
 split
 ·exact .inl ⟨rfl, by simp⟩
 ·split
  ·exact .inl ⟨rfl, by simp⟩
  ·exact .inr ⟨rfl, rfl⟩
theorem sync_at {m : Mach} {x : L} {k : Nat} (hk : m.find x = some k) : (sync m x).2 = m ∧ (sync m x).1 ≠ 0 ∨ (sync m x).1 = 0 ∧ (sync m x).2 = { m with files := m.files.set k ⟨(fileAt m.files k).all, []⟩, power := spend m.power } := by
 unfold sync
 rw [hk]
 simp only
 split
 ·exact .inl ⟨rfl, by simp⟩
 ·exact .inr ⟨rfl, rfl⟩
/-- What a file's making leaves. -/
structure Made (m m' : Mach) (x : L) : Prop where
  safe : m'.safe = m.safe
  room : m'.room = m.room
  steps : m'.steps = m.steps ∨ m'.steps = m.steps ++ [(x, some m.files.length)]
  grow : Grow m.files m'.files
theorem Made.refl (m : Mach) (x : L) : Made m m x := ⟨rfl, rfl, .inl rfl, Grow.refl _⟩
theorem put3_made {C : Nat} {m : Mach} {x s : L} (hi : Inv C m) : Made m (put3 m x s).2 x ∧ Inv (C + 2) (put3 m x s).2 ∧ ((put3 m x s).1 = 0 → HasF (put3 m x s).2.now (put3 m x s).2.files x s ∧ (put3 m x s).2.steps = m.steps ++ [(x, some m.files.length)]) := by
 unfold put3
 by_cases h1 : (create m x).1 = 0
 ·rw [if_pos h1]
  have hf := create_find hi h1
  obtain ⟨e1, _, _, _⟩ := createM_ok h1
  have i1 := create_inv hi x
  have a1 : Made m (create m x).2 x := by
   rw [e1]
   exact ⟨rfl, rfl, .inr rfl, Grow.snoc _ _⟩
  have n1 : fileAt (create m x).2.files m.files.length = ⟨[], []⟩ := by rw [e1]; exact fileAt_new
  have l1 : (create m x).2.files.length = m.files.length + 1 := by rw [e1]; simp
  have s1 : (create m x).2.steps = m.steps ++ [(x, some m.files.length)] := by rw [e1]
  generalize (create m x).2 = m1 at *
  have i2 := write_inv i1 x s
  rcases write_at (s := s) hf with ⟨e2, e3⟩ | ⟨e3, e2⟩
  ·rw [if_neg e3, e2]
   exact ⟨a1, i1, fun h => absurd h e3⟩
  ·rw [if_pos e3]
   have hf2 : (write m1 x s).2.find x = some m.files.length := by rw [e2]; exact hf
   have a2 : Made m (write m1 x s).2 x := by
    rw [e2]
    exact ⟨a1.safe, a1.room, a1.steps, a1.grow.set (Nat.le_refl _)⟩
   have n2 : fileAt (write m1 x s).2.files m.files.length = ⟨[], s⟩ := by
    rw [e2]
    show fileAt (m1.files.set _ _) _ = _
    rw [fileAt_same (by omega), n1]
    rfl
   have l2 : (write m1 x s).2.files.length = m.files.length + 1 := by
    rw [e2]
    show (m1.files.set _ _).length = _
    rw [List.length_set]; exact l1
   have s2 : (write m1 x s).2.steps = m.steps ++ [(x, some m.files.length)] := by rw [e2]; exact s1
   generalize (write m1 x s).2 = m2 at *
   have i3 := sync_inv i2 x
   rcases sync_at hf2 with ⟨e4, e5⟩ | ⟨e5, e4⟩
   ·rw [e4]
    exact ⟨a2, i2, fun h => absurd h e5⟩
   ·refine ⟨?_, i3, fun _ => ⟨⟨m.files.length, look_mem (by rw [e4]; exact hf2), ?_, ?_⟩, by rw [e4]; exact s2⟩⟩
    ·rw [e4]
     exact ⟨a2.safe, a2.room, a2.steps, a2.grow.set (Nat.le_refl _)⟩
    ·rw [e4]
     show _ < (m2.files.set _ _).length
     rw [List.length_set]; omega
    ·rw [e4]
     show fileAt (m2.files.set _ _) _ = _
     rw [fileAt_same (by omega), n2]
     rfl
 ·rw [if_neg h1, createM_bad h1]
  exact ⟨Made.refl _ _, hi.mono (by omega), fun h => absurd h h1⟩
theorem remove_at {m : Mach} {x : L} : (remove m x).2 = m ∧ (remove m x).1 ≠ 0 ∨ (remove m x).1 = 0 ∧ (remove m x).2 = { m with steps := m.steps ++ [(x, none)], power := spend m.power } := by
 unfold remove
 split
 ·exact .inl ⟨rfl, by simp⟩
 ·split
  ·exact .inl ⟨rfl, by simp⟩
  ·exact .inr ⟨rfl, rfl⟩
section
variable {c : Codec} {n C : Nat} {D : List (RowM × L)} {m m' : Mach} {x s : L}
/-- A name that is not there is none that it needs. -/
theorem Safe.free (hi : Inv C m) (h : Safe c n D m) (hf : m.find x = none) (hx : x ≠ manL) : (vm n D).keeps x = false := by
 cases hk : (vm n D).keeps x with
 | false => rfl
 | true =>
  exfalso
  unfold VM.keeps at hk
  rw [Bool.or_eq_true, Bool.and_eq_true] at hk
  rcases hk with ⟨hk, _⟩ | hk
  ·exact hx (by simpa using hk)
  ·obtain ⟨r, hr, he⟩ := List.any_eq_true.1 hk
   obtain ⟨p, hp, rfl⟩ := List.mem_map.1 hr
   have he2 : p.1.file = x := by simpa using he
   obtain ⟨⟨k, h1, _⟩, _⟩ := h.now.rows p hp
   rw [he2] at h1
   exact look_none.1 hf k h1
theorem Safe.made (hi : Inv C m) (h : Safe c n D m) (mk : Made m m' x) (hk : (vm n D).keeps x = false) (hx : x ≠ manL) : Safe c n D m' := by
 rcases mk.steps with e | e
 ·exact h.more mk.safe (ts := []) (by rw [e, List.append_nil]) mk.grow (fun t ht => by simp at ht)
 ·refine h.more mk.safe e mk.grow (fun t ht => ?_)
  rw [List.mem_singleton.1 ht]
  exact ⟨hk, fun e => absurd e hx⟩
theorem Safe.put3 (hi : Inv C m) (h : Safe c n D m) (hx : x ≠ manL) : Safe c n D (put3 m x s).2 := by
 by_cases h1 : (create m x).1 = 0
 ·obtain ⟨_, _, _, hf⟩ := createM_ok h1
  exact h.made hi (put3_made hi).1 (h.free hi hf hx) hx
 ·unfold Pl.put3
  rw [if_neg h1, createM_bad h1]
  exact h
theorem Safe.goAll (h : Safe c n D m) {l : List L} (hl : ∀ y ∈ l, (vm n D).keeps y = false) : Safe c n D (goAll l m).2 := by
 -- the steps lay names to rest: none of them puts a file
 induction l generalizing m with
 | nil => exact h
 | cons y r ih =>
  unfold Pl.goAll
  rcases remove_at (m := m) (x := y) with ⟨e1, e2⟩ | ⟨e2, e1⟩
  ·rw [if_neg e2, e1]
   exact h
  ·rw [if_pos e2]
   refine ih ?_ (fun z hz => hl z (List.mem_cons_of_mem _ hz))
   rw [e1]
   exact h.more rfl (ts := [(y, none)]) rfl (Grow.refl _) (fun t ht => by
    rw [List.mem_singleton.1 ht]
    exact ⟨hl y List.mem_cons_self, fun _ => rfl⟩)
theorem Safe.sweep (h : Safe c n D m) : Safe c n D (sweep (vm n D) m).2 := by
 have hg := h.goAll (l := (list m).filter fun x => !(vm n D).keeps x) (fun y hy => by
  have := (List.mem_filter.1 hy).2
  simpa using this)
 unfold Pl.sweep
 split
 ·exact h
 ·split
  ·exact hg.syncDir
  ·exact hg
theorem remove_full (hi : Inv C m) (hp : m.power = -1) {k : Nat} (hk : (x, k) ∈ m.now) : remove m x = (0, { m with steps := m.steps ++ [(x, none)], power := -1 }) := by
 have : m.find x = some k := (look_iff hi.now_sorted).2 hk
 unfold remove
 rw [this]
 simp only
 rw [hp, if_neg (by decide)]
 rfl
theorem goAll_full : ∀ (l : List L) {C : Nat} {m : Mach}, Inv C m → m.power = -1 → l.Nodup → (∀ y ∈ l, ∃ k, (y, k) ∈ m.now) → (goAll l m).1 = 0 ∧ (goAll l m).2.power = -1
 | [], _, m, _, hp, _, _ => ⟨rfl, hp⟩
 | y :: r, C, m, hi, hp, hn, hl => by
  obtain ⟨k, hk⟩ := hl y List.mem_cons_self
  have e := remove_full hi hp hk
  have hn2 := List.nodup_cons.1 hn
  have hi2 := remove_inv hi y
  unfold goAll
  rw [e] at hi2 ⊢
  rw [if_pos rfl]
  refine goAll_full r hi2 rfl hn2.2 (fun z hz => ?_)
  obtain ⟨j, hj⟩ := hl z (List.mem_cons_of_mem _ hz)
  refine ⟨j, ?_⟩
  show _ ∈ after m.safe (m.steps ++ [(y, none)])
  rw [now_snoc]
  exact mem_put.2 (.inr ⟨hj, fun e => hn2.1 (by rw [← (show z = y from e)]; exact hz)⟩)
theorem list_nodup (hi : Inv C m) : (list m).Nodup := by
 unfold list
 refine List.pairwise_map.2 ?_
 exact hi.now_sorted.imp (fun hb => before_ne hb)
theorem sweep_full (hi : Inv C m) (hp : m.power = -1) (v : VM) : (sweep v m).1 = 0 ∧ (sweep v m).2.power = -1 := by
 have hg := goAll_full ((list m).filter fun x => !v.keeps x) hi hp ((list_nodup hi).filter _) (fun y hy => by
  obtain ⟨p, hp, rfl⟩ := List.mem_map.1 (List.mem_filter.1 hy).1
  exact ⟨p.2, hp⟩)
 unfold sweep
 split
 ·exact ⟨rfl, hp⟩
 ·rw [if_pos hg.1]
  unfold syncDir
  rw [hg.2, if_neg (by decide)]
  exact ⟨rfl, rfl⟩
/-- Opened with endless power: this vault, without error; and it is there as it was. -/
theorem open_full (hi : Inv C m) (hp : m.power = -1) (h : Safe c n D m) (hback : c.parse (c.print n (D.map (·.1))) = some (n, D.map (·.1))) :
  (openV c m).1 = 0 ∧ (openV c m).2.1 = some (vm n D) ∧ Safe c n D (openV c m).2.2 ∧ (openV c m).2.2.power = -1 := by
 have hs := sweep_full hi hp (vm n D)
 unfold openV
 rw [h.says hi hback]
 simp only
 rw [if_pos hs.1]
 exact ⟨rfl, rfl, h.sweep, hs.2⟩
end
/-- The files of a commit, one by one, up to the first error. -/
def doPuts (c : Codec) (n : Nat) : Nat → List L → Mach → Int × Mach
  | i, [], m => (0, m)
  | i, s :: r, m => if (put3 m (c.name n i) s).1 = 0 then doPuts c n (i + 1) r (put3 m (c.name n i) s).2 else put3 m (c.name n i) s
/-- All that is done ahead of the manifest's new name, and that. -/
def stage (c : Codec) (n : Nat) (put : List L) (lines : L) (m : Mach) : Int × Mach :=
  if (doPuts c n 0 put m).1 = 0 then
    if (put3 (doPuts c n 0 put m).2 newL lines).1 = 0 then
      if (syncDir (put3 (doPuts c n 0 put m).2 newL lines).2).1 = 0 then rename (syncDir (put3 (doPuts c n 0 put m).2 newL lines).2).2 newL manL
      else syncDir (put3 (doPuts c n 0 put m).2 newL lines).2
    else put3 (doPuts c n 0 put m).2 newL lines
  else doPuts c n 0 put m
/-- What the names of files are like. -/
structure Codec.Names (c : Codec) : Prop where
  man : ∀ n i, c.name n i ≠ manL
  new : ∀ n i, c.name n i ≠ newL
  inj : ∀ n i j, c.name n i = c.name n j → i = j
section
variable {c : Codec} {n n0 C : Nat} {D D' : List (RowM × L)} {m m' : Mach} {x y s : L}
theorem HasF.made (h : HasF m.now m.files x s) (mk : Made m m' y) (hy : y ≠ x) : HasF m'.now m'.files x s := by
 rcases mk.steps with e | e
 ·have : m'.now = m.now := by unfold Mach.now; rw [mk.safe, e]
  rw [this]
  exact h.grow mk.grow
 ·have : m'.now = put m.now (y, some m.files.length) := by
   unfold Mach.now
   rw [mk.safe, e]
   exact now_snoc m _
  rw [this]
  exact (h.step (t := (y, some m.files.length)) hy).grow mk.grow
theorem doPuts_made (hc : c.Names) : ∀ (put : List L) (i : Nat) {C : Nat} {m : Mach}, Inv C m → Safe c n0 D m →
  Inv (C + 2 * put.length) (doPuts c n i put m).2 ∧ Safe c n0 D (doPuts c n i put m).2 ∧
  (∀ x s, x ≠ manL → (∀ j, i ≤ j → x ≠ c.name n j) → HasF m.now m.files x s → HasF (doPuts c n i put m).2.now (doPuts c n i put m).2.files x s) ∧
  ((doPuts c n i put m).1 = 0 → ∀ (j : Nat) (s : L), put[j]? = some s → HasF (doPuts c n i put m).2.now (doPuts c n i put m).2.files (c.name n (i + j)) s)
 | [], i, C, m, hi, hs => ⟨hi, hs, fun x s _ _ h => h, fun _ j s h => by simp at h⟩
 | s0 :: r, i, C, m, hi, hs => by
  obtain ⟨mk, i1, hh⟩ := put3_made (x := c.name n i) (s := s0) hi
  have s1 := hs.put3 hi (hc.man n i) (s := s0)
  unfold doPuts
  by_cases h0 : (put3 m (c.name n i) s0).1 = 0
  ·rw [if_pos h0]
   obtain ⟨i2, s2, k2, h2⟩ := doPuts_made hc r (i + 1) i1 s1
   refine ⟨i2.mono (by rw [List.length_cons]; omega), s2, fun x s hx hj h => ?_, fun he j s hj => ?_⟩
   ·exact k2 x s hx (fun j h1 => hj j (by omega)) (h.made mk (fun e => hj i (Nat.le_refl _) e.symm))
   ·cases j with
    | zero =>
     have e : s0 = s := by simpa using hj
     subst e
     exact k2 _ _ (hc.man n _) (fun j h1 e => by have := hc.inj n _ _ e; omega) (hh h0).1
    | succ j =>
     have := h2 he j s (by simpa using hj)
     rw [show i + (j + 1) = i + 1 + j by omega]
     exact this
  ·rw [if_neg h0]
   exact ⟨i1.mono (by rw [List.length_cons]; omega), s1, fun x s hx hj h => h.made mk (fun e => hj i (Nat.le_refl _) e.symm), fun he => absurd he h0⟩
/-- The rename's machine. -/
theorem rename_at (hk : m.find x = some 0 ∨ ∃ k, m.find x = some k) (hn : nameOk y = true) (hxy : x ≠ y) : (rename m x y).2 = m ∧ (rename m x y).1 ≠ 0 ∨ (rename m x y).1 = 0 ∧ ∃ k, m.find x = some k ∧ (rename m x y).2 = { m with steps := m.steps ++ [(y, some k), (x, none)], power := spend m.power } := by
 obtain ⟨k, hk⟩ : ∃ k, m.find x = some k := by
  rcases hk with h | h
  ·exact ⟨0, h⟩
  ·exact h
 unfold rename
 rw [hk]
 simp only
 rw [if_neg (by rw [hn]; decide)]
 split
 ·exact .inl ⟨rfl, by simp⟩
 ·exact .inr ⟨rfl, k, rfl, by simp [hxy]⟩
/-- Either of two vaults, however many steps a crash leaves; the latter, if all are left. -/
structure Either (c : Codec) (n0 : Nat) (D : List (RowM × L)) (n : Nat) (D' : List (RowM × L)) (m : Mach) : Prop where
  any : ∀ j, Holds c n0 D (after m.safe (m.steps.take j)) m.files ∨ Holds c n D' (after m.safe (m.steps.take j)) m.files
  now : Holds c n D' m.now m.files
theorem stage_made (hc : c.Names) (ps : List L) (lines : L) (hi : Inv C m) (hs : Safe c n0 D m) (hn : 0 < n) (hl : lines = c.print n (D'.map (·.1)))
  (hD : ∀ p ∈ D', (p ∈ D ∧ p.1.file ≠ manL ∧ p.1.file ≠ newL ∧ (∀ j, p.1.file ≠ c.name n j)) ∨ ((∃ i, ps[i]? = some p.2 ∧ p.1.file = c.name n i) ∧ p.2.length = p.1.size ∧ c.sum p.2 = p.1.sum)) :
  ((stage c n ps lines m).1 ≠ 0 → Safe c n0 D (stage c n ps lines m).2) ∧ ((stage c n ps lines m).1 = 0 → Either c n0 D n D' (stage c n ps lines m).2) ∧ Inv (C + 2 * ps.length + 4) (stage c n ps lines m).2 := by
 obtain ⟨i1, s1, k1, h1⟩ := doPuts_made (n := n) hc ps 0 hi hs
 have hnm : newL ≠ manL := by decide
 unfold stage
 by_cases e1 : (doPuts c n 0 ps m).1 = 0
 ·rw [if_pos e1]
  have f1 := h1 e1
  have d1 : ∀ x s, x ≠ manL → (∀ j, x ≠ c.name n j) → HasF m.now m.files x s → HasF (doPuts c n 0 ps m).2.now (doPuts c n 0 ps m).2.files x s := fun x s hx hj h => k1 x s hx (fun j _ => hj j) h
  generalize (doPuts c n 0 ps m).2 = m1 at *
  obtain ⟨mk2, i2, hh2⟩ := put3_made (x := newL) (s := lines) i1
  have s2 := s1.put3 i1 hnm (s := lines)
  by_cases e2 : (put3 m1 newL lines).1 = 0
  ·rw [if_pos e2]
   have hnew := (hh2 e2).1
   -- what the new rows' files are, there
   have hrows : ∀ p ∈ D', HasF (put3 m1 newL lines).2.now (put3 m1 newL lines).2.files p.1.file p.2 ∧ p.2.length = p.1.size ∧ c.sum p.2 = p.1.sum ∧ p.1.file ≠ manL ∧ p.1.file ≠ newL := by
    intro p hp
    rcases hD p hp with ⟨hpD, a1, a2, a3⟩ | ⟨⟨i, hi2, hf⟩, a1, a2⟩
    ·obtain ⟨q1, q2, q3⟩ := hs.now.rows p hpD
     exact ⟨(d1 _ _ a1 a3 q1).made mk2 (fun e => a2 e.symm), q2, q3, a1, a2⟩
    ·have := f1 i p.2 hi2
     rw [Nat.zero_add] at this
     rw [hf]
     exact ⟨this.made mk2 (fun e => hc.new n i e.symm), a1, a2, hc.man n i, hc.new n i⟩
   generalize (put3 m1 newL lines).2 = m2 at *
   have s3 := s2.syncDir
   have i3 := syncDir_inv i2
   by_cases e3 : (syncDir m2).1 = 0
   ·rw [if_pos e3]
    have hm3 : (syncDir m2).2.now = m2.now ∧ (syncDir m2).2.files = m2.files ∧ (syncDir m2).2.steps = [] := by
     unfold syncDir at e3 ⊢
     split
     ·rename_i h
      rw [if_pos h] at e3
      simp at e3
     ·exact ⟨rfl, rfl, rfl⟩
    obtain ⟨hm3a, hm3b, hm3c⟩ := hm3
    rw [← hm3a, ← hm3b] at hnew
    rw [← hm3a, ← hm3b] at hrows
    generalize (syncDir m2).2 = m3 at *
    obtain ⟨kn, q1, q2, q3⟩ := hnew
    have hfind : m3.find newL = some kn := (look_iff i3.now_sorted).2 q1
    have i4 := rename_inv i3 newL manL
    rcases rename_at (m := m3) (x := newL) (y := manL) (.inr ⟨kn, hfind⟩) (by decide) hnm with ⟨r1, r2⟩ | ⟨r1, k, r2, r3⟩
    ·rw [r1]
     exact ⟨fun _ => s3, fun h => absurd h r2, i3.mono (by omega)⟩
    ·have hkk : k = kn := by rw [hfind] at r2; exact (Option.some.inj r2).symm
     subst hkk
     refine ⟨fun h => absurd r1 h, fun _ => ?_, i4.mono (by omega)⟩
     rw [r3]
     have hone : Holds c n D' (put m3.now (manL, some k)) m3.files := by
      refine ⟨fun _ => ⟨k, mem_put.2 (.inl ⟨rfl, rfl⟩), q2, by rw [q3, hl]⟩, fun h => by omega, fun p hp => ?_⟩
      obtain ⟨b1, b2, b3, b4, b5⟩ := hrows p hp
      exact ⟨b1.step (t := (manL, some k)) (fun e => b4 e.symm), b2, b3⟩
     have htwo : Holds c n D' (put (put m3.now (manL, some k)) (newL, none)) m3.files := by
      refine ⟨fun hz => (hone.man hz).step (t := (newL, none)) hnm, fun h => by omega, fun p hp => ?_⟩
      obtain ⟨b1, b2, b3, b4, b5⟩ := hrows p hp
      exact ⟨(b1.step (t := (manL, some k)) (fun e => b4 e.symm)).step (t := (newL, none)) (fun e => b5 e.symm), b2, b3⟩
     have hnow : after m3.safe [] = m3.now := by unfold Mach.now; rw [hm3c]
     refine ⟨fun j => ?_, ?_⟩
     ·show Holds c n0 D (after m3.safe ((m3.steps ++ [(manL, some k), (newL, none)]).take j)) m3.files ∨ Holds c n D' (after m3.safe ((m3.steps ++ [(manL, some k), (newL, none)]).take j)) m3.files
      rw [hm3c, List.nil_append]
      match j with
      | 0 =>
       left
       rw [List.take_zero, hnow]
       exact s3.now
      | 1 =>
       right
       show Holds c n D' (put (after m3.safe []) (manL, some k)) m3.files
       rw [hnow]
       exact hone
      | j + 2 =>
       right
       have : ([(manL, some k), (newL, none)] : List Stp).take (j + 2) = [(manL, some k), (newL, none)] := List.take_of_length_le (by simp)
       rw [this]
       show Holds c n D' (put (put (after m3.safe []) (manL, some k)) (newL, none)) m3.files
       rw [hnow]
       exact htwo
     ·show Holds c n D' (after m3.safe (m3.steps ++ [(manL, some k), (newL, none)])) m3.files
      rw [hm3c, List.nil_append]
      show Holds c n D' (put (put (after m3.safe []) (manL, some k)) (newL, none)) m3.files
      rw [hnow]
      exact htwo
   ·rw [if_neg e3]
    exact ⟨fun _ => s3, fun h => absurd h e3, i3.mono (by omega)⟩
  ·rw [if_neg e2]
   exact ⟨fun _ => s2, fun h => absurd h e2, i2.mono (by omega)⟩
 ·rw [if_neg e1]
  exact ⟨fun _ => s1, fun h => absurd h e1, i1.mono (by omega)⟩
end
section
variable {c : Codec} {n n0 C : Nat} {D D' : List (RowM × L)} {m m' : Mach} {x y s : L}
theorem Either.crash (a b : Int) (h : Either c n0 D n D' m) : Safe c n0 D (crash m a b) ∨ Safe c n D' (crash m a b) := by
 have key : ∀ {k : Nat} {E : List (RowM × L)}, Holds c k E (after m.safe (m.steps.take (clamp a m.steps.length))) m.files → Safe c k E (Pl.crash m a b) := by
  intro k E hh j
  show Holds c k E (after (after m.safe (m.steps.take (clamp a m.steps.length))) (([] : List Stp).take j)) (m.files.map _)
  rw [List.take_nil]
  exact hh.crash b
 rcases h.any (clamp a m.steps.length) with h1 | h1
 ·exact .inl (key h1)
 ·exact .inr (key h1)
theorem Either.syncDir (h : Either c n0 D n D' m) : (syncDir m).1 = 0 ∧ Safe c n D' (syncDir m).2 ∨ (syncDir m).1 ≠ 0 ∧ (syncDir m).2 = m := by
 unfold Pl.syncDir
 split
 ·exact .inr ⟨by simp, rfl⟩
 ·refine .inl ⟨rfl, fun j => ?_⟩
  show Holds c n D' (after m.now (([] : List Stp).take j)) m.files
  rw [List.take_nil]
  exact h.now
/-- A commit: its error, whether the new vault is there, the plate. -/
def commitM (c : Codec) (n0 : Nat) (D D' : List (RowM × L)) (ps : List L) (m : Mach) : Int × Bool × Mach :=
  if (stage c (n0 + 1) ps (c.print (n0 + 1) (D'.map (·.1))) m).1 = 0 then
    if (syncDir (stage c (n0 + 1) ps (c.print (n0 + 1) (D'.map (·.1))) m).2).1 = 0 then
      ((sweep (vm (n0 + 1) D') (syncDir (stage c (n0 + 1) ps (c.print (n0 + 1) (D'.map (·.1))) m).2).2).1, true, (sweep (vm (n0 + 1) D') (syncDir (stage c (n0 + 1) ps (c.print (n0 + 1) (D'.map (·.1))) m).2).2).2)
    else ((syncDir (stage c (n0 + 1) ps (c.print (n0 + 1) (D'.map (·.1))) m).2).1, true, (syncDir (stage c (n0 + 1) ps (c.print (n0 + 1) (D'.map (·.1))) m).2).2)
  else ((stage c (n0 + 1) ps (c.print (n0 + 1) (D'.map (·.1))) m).1, false, (sweep (vm n0 D) (stage c (n0 + 1) ps (c.print (n0 + 1) (D'.map (·.1))) m).2).2)
/-- What a commit's new rows are: old ones, or files of this commit. -/
def Fits (c : Codec) (n : Nat) (D D' : List (RowM × L)) (ps : List L) : Prop := ∀ p ∈ D', (p ∈ D ∧ p.1.file ≠ manL ∧ p.1.file ≠ newL ∧ (∀ j, p.1.file ≠ c.name n j)) ∨ ((∃ i, ps[i]? = some p.2 ∧ p.1.file = c.name n i) ∧ p.2.length = p.1.size ∧ c.sum p.2 = p.1.sum)
theorem commit_made (hc : c.Names) (ps : List L) (hi : Inv C m) (hs : Safe c n0 D m) (hD : Fits c (n0 + 1) D D' ps) :
  ((commitM c n0 D D' ps m).2.1 = false → (commitM c n0 D D' ps m).1 ≠ 0 ∧ Safe c n0 D (commitM c n0 D D' ps m).2.2) ∧
  ((commitM c n0 D D' ps m).2.1 = true → Safe c (n0 + 1) D' (commitM c n0 D D' ps m).2.2 ∨ ((commitM c n0 D D' ps m).1 ≠ 0 ∧ Either c n0 D (n0 + 1) D' (commitM c n0 D D' ps m).2.2)) := by
 obtain ⟨h1, h2, _⟩ := stage_made (D := D) (D' := D') hc ps (c.print (n0 + 1) (D'.map (·.1))) hi hs (Nat.succ_pos n0) rfl hD
 unfold commitM
 generalize stage c (n0 + 1) ps (c.print (n0 + 1) (D'.map (·.1))) m = st at *
 by_cases e1 : st.1 = 0
 ·rw [if_pos e1]
  have he := h2 e1
  rcases he.syncDir with ⟨e2, s2⟩ | ⟨e2, s2⟩
  ·rw [if_pos e2]
   exact ⟨fun h => (by cases h), fun _ => .inl s2.sweep⟩
  ·rw [if_neg e2]
   refine ⟨fun h => (by cases h), fun _ => .inr ⟨e2, ?_⟩⟩
   rw [s2]
   exact he
 ·rw [if_neg e1]
  exact ⟨fun _ => ⟨e1, (h1 e1).sweep⟩, fun h => by cases h⟩
/-- Whatever power there was for a commit, and whatever crash follows: the one vault is there, or the other; the latter, if there was no error. -/
theorem commit_crash (hc : c.Names) (ps : List L) (hi : Inv C m) (hs : Safe c n0 D m) (hD : Fits c (n0 + 1) D D' ps) (a b : Int) :
  ((commitM c n0 D D' ps m).1 ≠ 0 ∧ Safe c n0 D (crash (commitM c n0 D D' ps m).2.2 a b)) ∨ Safe c (n0 + 1) D' (crash (commitM c n0 D D' ps m).2.2 a b) := by
 obtain ⟨h1, h2⟩ := commit_made hc ps hi hs hD
 cases hb : (commitM c n0 D D' ps m).2.1 with
 | false => exact .inl ⟨(h1 hb).1, (h1 hb).2.crash a b⟩
 | true =>
  rcases h2 hb with h3 | ⟨h3, h4⟩
  ·exact .inr (h3.crash a b)
  ·rcases h4.crash a b with h5 | h5
   ·exact .inl ⟨h3, h5⟩
   ·exact .inr h5
end
section
variable {c : Codec} {n C : Nat} {D : List (RowM × L)} {m : Mach} {x s : L}
theorem Safe.limit (h : Safe c n D m) (k : Int) : Safe c n D (limit m k) := h
/-- A file that it does not need is made. -/
theorem Safe.create (hi : Inv C m) (h : Safe c n D m) (hx : x ≠ manL) : Safe c n D (create m x).2 := by
 by_cases h1 : (Pl.create m x).1 = 0
 ·obtain ⟨e, _, _, hf⟩ := createM_ok h1
  rw [e]
  refine h.more rfl (ts := [(x, some m.files.length)]) rfl (Grow.snoc _ _) (fun t ht => ?_)
  rw [List.mem_singleton.1 ht]
  exact ⟨h.free hi hf hx, fun e => absurd e hx⟩
 ·rw [createM_bad h1]
  exact h
/-- Opened with whatever power: it is this vault, or there is an error; it is there as it was. -/
theorem open_any (hi : Inv C m) (h : Safe c n D m) (hback : c.parse (c.print n (D.map (·.1))) = some (n, D.map (·.1))) :
  ((openV c m).2.1 = some (vm n D) ∧ (openV c m).1 = 0 ∨ (openV c m).2.1 = none ∧ (openV c m).1 ≠ 0) ∧ Safe c n D (openV c m).2.2 := by
 unfold openV
 rw [h.says hi hback]
 simp only
 split
 ·exact ⟨.inl ⟨rfl, rfl⟩, h.sweep⟩
 ·rename_i e
  exact ⟨.inr ⟨rfl, e⟩, h.sweep⟩
/-- Which names of files there are. -/
def Own (c : Codec) (n : Nat) (D : List (RowM × L)) : Prop := ∀ p ∈ D, ∃ k i, k ≤ n ∧ p.1.file = c.name k i
/-- Rows: in a name's order one takes the old one's place, or comes in. -/
def setD (r : RowM) (s : L) : List (RowM × L) → List (RowM × L)
  | [] => [(r, s)]
  | q :: t => if r.name = q.1.name then (r, s) :: t else if bytesBefore r.name q.1.name then (r, s) :: q :: t else q :: setD r s t
def putD (c : Codec) (n : Nat) : Nat → List (L × L) → List (RowM × L) → List (RowM × L)
  | _, [], D => D
  | i, b :: r, D => putD c n (i + 1) r (setD ⟨b.1, c.name n i, b.2.length, c.sum b.2⟩ b.2 D)
def nextD (c : Codec) (n : Nat) (ps : List (L × L)) (gone : List L) (D : List (RowM × L)) : List (RowM × L) := putD c n 0 ps (D.filter fun p => !gone.contains p.1.name)
theorem mem_setD {r : RowM} {s : L} {p : RowM × L} : ∀ {D : List (RowM × L)}, p ∈ setD r s D → p = (r, s) ∨ p ∈ D
 | [], h => by
  rw [setD] at h
  exact .inl (List.mem_singleton.1 h)
 | q :: t, h => by
  unfold setD at h
  split at h
  ·rcases List.mem_cons.1 h with h | h
   ·exact .inl h
   ·exact .inr (List.mem_cons_of_mem _ h)
  ·split at h
   ·rcases List.mem_cons.1 h with h | h
    ·exact .inl h
    ·exact .inr h
   ·rcases List.mem_cons.1 h with h | h
    ·exact .inr (h ▸ List.mem_cons_self)
    ·exact (mem_setD h).imp id (List.mem_cons_of_mem _)
theorem mem_putD {c : Codec} {n : Nat} {p : RowM × L} : ∀ (ps : List (L × L)) (i : Nat) {D : List (RowM × L)}, p ∈ putD c n i ps D → p ∈ D ∨ ∃ j b, ps[j]? = some b ∧ p = (⟨b.1, c.name n (i + j), b.2.length, c.sum b.2⟩, b.2)
 | [], i, D, h => .inl h
 | b :: r, i, D, h => by
  rcases mem_putD r (i + 1) h with h1 | ⟨j, b', hj, he⟩
  ·rcases mem_setD h1 with h2 | h2
   ·exact .inr ⟨0, b, rfl, h2⟩
   ·exact .inl h2
  ·exact .inr ⟨j + 1, b', by simpa using hj, by rw [he, show i + 1 + j = i + (j + 1) by omega]⟩
/-- The next rows fit what the commit writes. -/
theorem fits_next (hc : c.Names) (hinj : ∀ k k' i j, c.name k i = c.name k' j → k = k') (ho : Own c n D) (ps : List (L × L)) (gone : List L) : Fits c (n + 1) D (nextD c (n + 1) ps gone D) (ps.map (·.2)) ∧ Own c (n + 1) (nextD c (n + 1) ps gone D) := by
 refine ⟨fun p hp => ?_, fun p hp => ?_⟩
 ·rcases mem_putD ps 0 hp with h1 | ⟨j, b, hj, rfl⟩
  ·have hD := (List.mem_filter.1 h1).1
   obtain ⟨k, i, hk, hf⟩ := ho p hD
   refine .inl ⟨hD, by rw [hf]; exact hc.man k i, by rw [hf]; exact hc.new k i, fun j e => ?_⟩
   rw [hf] at e
   have := hinj _ _ _ _ e
   omega
  ·refine .inr ⟨⟨j, ?_, by rw [Nat.zero_add]⟩, rfl, rfl⟩
   rw [List.getElem?_map, hj]
   rfl
 ·rcases mem_putD ps 0 hp with h1 | ⟨j, b, hj, rfl⟩
  ·obtain ⟨k, i, hk, hf⟩ := ho p (List.mem_filter.1 h1).1
   exact ⟨k, i, by omega, hf⟩
  ·exact ⟨n + 1, 0 + j, Nat.le_refl _, rfl⟩
end
def Rising (D : List (RowM × L)) : Prop := D.Pairwise fun a b => bytesBefore a.1.name b.1.name = true
theorem rising_setD {r : RowM} {s : L} : ∀ {D : List (RowM × L)}, Rising D → Rising (setD r s D)
 | [], _ => List.pairwise_singleton _ _
 | q :: t, h => by
  have h1 := List.pairwise_cons.1 h
  unfold setD
  split
  ·rename_i e
   exact List.pairwise_cons.2 ⟨fun p hp => by show bytesBefore r.name p.1.name = true; rw [e]; exact h1.1 p hp, h1.2⟩
  ·rename_i hne
   split
   ·rename_i hb
    refine List.pairwise_cons.2 ⟨fun p hp => ?_, h⟩
    rcases List.mem_cons.1 hp with rfl | hp
    ·exact hb
    ·exact WideShapes.bytes_trans _ _ _ hb (h1.1 p hp)
   ·rename_i hb
    refine List.pairwise_cons.2 ⟨fun p hp => ?_, rising_setD h1.2⟩
    rcases mem_setD hp with rfl | hp
    ·rcases WideAt.bytes_total q.1.name r.name (fun e => hne e.symm) with h2 | h2
     ·exact h2
     ·exact absurd h2 hb
    ·exact h1.1 p hp
theorem rising_putD {c : Codec} {n : Nat} : ∀ (ps : List (L × L)) (i : Nat) {D : List (RowM × L)}, Rising D → Rising (putD c n i ps D)
 | [], _, _, h => h
 | b :: r, i, D, h => rising_putD r (i + 1) (rising_setD h)
theorem rising_next {c : Codec} {n : Nat} {ps : List (L × L)} {gone : List L} {D : List (RowM × L)} (h : Rising D) : Rising (nextD c n ps gone D) := rising_putD ps 0 (List.Pairwise.filter _ h)
def tx (D : List (RowM × L)) : List L := D.flatMap fun p => [p.1.name, p.2]
/-- Names and texts by turns, in which a name has a text: as the statement's own 'set' does it. -/
def setT (x s : L) : List L → List L → Bool → List L
  | a :: b :: r, out, done =>
    let o1 := if bytesBefore a x = false ∧ done = false then out ++ [x, s] else out
    let d1 := if bytesBefore a x = false ∧ done = false then true else done
    setT x s r (if a = x then o1 else o1 ++ [a, b]) d1
  | _, out, done => if done then out else out ++ [x, s]
theorem setT_done (x s : L) : ∀ (D : List (RowM × L)) (out : List L), (∀ p ∈ D, p.1.name ≠ x) → setT x s (tx D) out true = out ++ tx D
 | [], out, _ => by simp [tx, setT]
 | q :: t, out, h => by
  have e : tx (q :: t) = q.1.name :: q.2 :: tx t := by simp [tx]
  rw [e]
  unfold setT
  simp only [and_false, Bool.true_eq_false, if_false]
  rw [if_neg (h q List.mem_cons_self), setT_done x s t _ (fun p hp => h p (List.mem_cons_of_mem _ hp))]
  simp
theorem before_asymm {a b : L} (h : bytesBefore a b = true) : bytesBefore b a = false := by
 cases h2 : bytesBefore b a with
 | false => rfl
 | true =>
  have := WideShapes.bytes_trans _ _ _ h h2
  rw [WideAt.bytes_irrefl] at this
  cases this
theorem setT_tx (r : RowM) (s : L) : ∀ (D : List (RowM × L)) (out : List L), Rising D → setT r.name s (tx D) out false = out ++ tx (setD r s D)
 | [], out, _ => by simp [tx, setT, setD]
 | q :: t, out, h => by
  have h1 := List.pairwise_cons.1 h
  have e : tx (q :: t) = q.1.name :: q.2 :: tx t := by simp [tx]
  rw [e]
  unfold setT setD
  by_cases hq : r.name = q.1.name
  ·rw [if_pos hq]
   have hb : bytesBefore q.1.name r.name = false := by rw [hq]; exact WideAt.bytes_irrefl _
   simp only [hb, and_self, if_true]
   rw [if_pos hq.symm, setT_done _ _ t _ (fun p hp e2 => before_ne (h1.1 p hp) (by rw [← hq, e2]))]
   simp [tx]
  ·rw [if_neg hq]
   cases hb : bytesBefore r.name q.1.name with
   | true =>
    have hb2 := before_asymm hb
    rw [if_pos rfl]
    simp only [hb2, and_self, if_true]
    rw [if_neg (fun e2 => hq e2.symm), setT_done _ _ t _ (fun p hp e2 => by
     have h3 := WideShapes.bytes_trans _ _ _ hb (h1.1 p hp)
     rw [e2, WideAt.bytes_irrefl] at h3
     cases h3)]
    simp [tx]
   | false =>
    have hb2 : bytesBefore q.1.name r.name = true := by
     rcases WideAt.bytes_total q.1.name r.name (fun e2 => hq e2.symm) with h2 | h2
     ·exact h2
     ·rw [h2] at hb
      cases hb
    rw [if_neg (show ¬ (false = true) by decide)]
    simp only [hb2, Bool.true_eq_false, false_and, if_false]
    rw [if_neg (fun e2 => hq e2.symm), setT_tx r s t _ h1.2]
    simp [tx]
/-- In a name's order a row takes the old one's place, or comes in. -/
def setR (r : RowM) : List RowM → List RowM
  | [] => [r]
  | q :: t => if r.name = q.name then r :: t else if bytesBefore r.name q.name then r :: q :: t else q :: setR r t
def putR (c : Codec) (n : Nat) : Nat → List (L × L) → List RowM → List RowM
  | _, [], l => l
  | i, b :: r, l => putR c n (i + 1) r (setR ⟨b.1, c.name n i, b.2.length, c.sum b.2⟩ l)
def goneR (gone : List L) (l : List RowM) : List RowM := l.filter fun r => !gone.contains r.name
def nextR (c : Codec) (n : Nat) (ps : List (L × L)) (gone : List L) (l : List RowM) : List RowM := putR c n 0 ps (goneR gone l)
theorem setD_rows (r : RowM) (s : L) : ∀ D : List (RowM × L), (setD r s D).map (·.1) = setR r (D.map (·.1))
 | [] => rfl
 | q :: t => by
  unfold setD
  rw [List.map_cons, setR]
  split
  ·rfl
  ·split
   ·rfl
   ·rw [List.map_cons, setD_rows r s t]
theorem putD_rows (c : Codec) (n : Nat) : ∀ (ps : List (L × L)) (i : Nat) (D : List (RowM × L)), (putD c n i ps D).map (·.1) = putR c n i ps (D.map (·.1))
 | [], _, _ => rfl
 | b :: r, i, D => by
  unfold putD putR
  rw [putD_rows c n r, setD_rows]
theorem nextD_rows (c : Codec) (n : Nat) (ps : List (L × L)) (gone : List L) (D : List (RowM × L)) : (nextD c n ps gone D).map (·.1) = nextR c n ps gone (D.map (·.1)) := by
 unfold nextD nextR goneR
 rw [putD_rows, List.filter_map]
 rfl
/-- All that a commit does on the plate: its error, the vault behind it, the plate. -/
def commitV (c : Codec) (v : VM) (l : List RowM) (ps : List L) (m : Mach) : Int × VM × Mach :=
  if (stage c (v.n + 1) ps (c.print (v.n + 1) l) m).1 = 0 then
    if (syncDir (stage c (v.n + 1) ps (c.print (v.n + 1) l) m).2).1 = 0 then
      ((sweep ⟨v.n + 1, l⟩ (syncDir (stage c (v.n + 1) ps (c.print (v.n + 1) l) m).2).2).1, ⟨v.n + 1, l⟩, (sweep ⟨v.n + 1, l⟩ (syncDir (stage c (v.n + 1) ps (c.print (v.n + 1) l) m).2).2).2)
    else ((syncDir (stage c (v.n + 1) ps (c.print (v.n + 1) l) m).2).1, ⟨v.n + 1, l⟩, (syncDir (stage c (v.n + 1) ps (c.print (v.n + 1) l) m).2).2)
  else ((stage c (v.n + 1) ps (c.print (v.n + 1) l) m).1, v, (sweep v (stage c (v.n + 1) ps (c.print (v.n + 1) l) m).2).2)
/-- A commit: what may not be is refused ahead of all. -/
def commitR (c : Codec) (v : VM) (ps : List (L × L)) (gone : List L) (m : Mach) : Int × VM × Mach :=
  if 1099511627776 < v.n + 1 then (2, v, m)
  else if (ps.all fun b => nameOk b.1) = false then (1, v, m)
  else commitV c v (nextR c (v.n + 1) ps gone v.rows) (ps.map (·.2)) m
theorem commitV_M (c : Codec) (n0 : Nat) (D D' : List (RowM × L)) (ps : List L) (m : Mach) :
  commitV c (vm n0 D) (D'.map (·.1)) ps m = ((commitM c n0 D D' ps m).1, (if (commitM c n0 D D' ps m).2.1 = true then vm (n0 + 1) D' else vm n0 D), (commitM c n0 D D' ps m).2.2) := by
 have e : (vm n0 D).n = n0 := rfl
 unfold commitV commitM
 rw [e]
 show _ = _
 by_cases h1 : (stage c (n0 + 1) ps (c.print (n0 + 1) (D'.map (·.1))) m).1 = 0
 ·rw [if_pos h1, if_pos h1]
  by_cases h2 : (syncDir (stage c (n0 + 1) ps (c.print (n0 + 1) (D'.map (·.1))) m).2).1 = 0
  ·rw [if_pos h2, if_pos h2]
   rfl
  ·rw [if_neg h2, if_neg h2]
   rfl
 ·rw [if_neg h1, if_neg h1]
  rfl
/-- A blob: the row of its name, and what its file has. -/
def getR (v : VM) (m : Mach) (x : L) : L × Int := match v.rows.find? fun r => r.name == x with
  | some r => read m r.file
  | none => ([], 10)
/-- However many of the steps a crash leaves: no more than K names. -/
def Cap (K : Nat) (m : Mach) : Prop := ∀ j, (after m.safe (m.steps.take j)).length ≤ K
section
variable {K : Nat} {m m' : Mach}
theorem Cap.mono {K' : Nat} (h : Cap K m) (hK : K ≤ K') : Cap K' m := fun j => Nat.le_trans (h j) hK
theorem Cap.now (h : Cap K m) : m.now.length ≤ K := by
 have := h m.steps.length
 rw [List.take_length] at this
 exact this
theorem Cap.fresh (room : Int) : Cap 0 (fresh room) := fun j => by simp [Pl.fresh, after]
theorem Cap.more {ts : List Stp} (h : Cap K m) (hs : m'.safe = m.safe) (ht : m'.steps = m.steps ++ ts) : Cap (K + ts.length) m' := by
 intro j
 rw [hs, ht, List.take_append, after_append]
 have h1 := after_len (ts.take (j - m.steps.length)) (after m.safe (m.steps.take j))
 have h2 := h j
 have h3 : (ts.take (j - m.steps.length)).length ≤ ts.length := List.length_take_le' _ _
 omega
theorem after_none_len : ∀ (l : List Stp) (d : Dir), (∀ t ∈ l, t.2 = none) → (after d l).length ≤ d.length
 | [], _, _ => Nat.le_refl _
 | s :: l, d, h => by
  have h1 := after_none_len l (put d s) (fun t ht => h t (List.mem_cons_of_mem _ ht))
  have h2 : (put d s).length ≤ d.length := by
   unfold put
   rw [h s List.mem_cons_self]
   exact rid_len _ _
  show (after (put d s) l).length ≤ _
  omega
theorem Cap.less {ts : List Stp} (h : Cap K m) (hs : m'.safe = m.safe) (ht : m'.steps = m.steps ++ ts) (hn : ∀ t ∈ ts, t.2 = none) : Cap K m' := by
 intro j
 rw [hs, ht, List.take_append, after_append]
 exact Nat.le_trans (after_none_len _ _ (fun t hm => hn t (List.mem_of_mem_take hm))) (h j)
theorem Cap.same (h : Cap K m) (hs : m'.safe = m.safe) (ht : m'.steps = m.steps) : Cap K m' := by
 intro j
 rw [hs, ht]
 exact h j
theorem Cap.create (h : Cap K m) (x : L) : Cap (K + 1) (create m x).2 := by
 by_cases h1 : (Pl.create m x).1 = 0
 ·rw [(createM_ok h1).1]
  exact h.more rfl (ts := [(x, some m.files.length)]) rfl
 ·rw [createM_bad h1]
  exact h.mono (Nat.le_succ _)
theorem Cap.write (h : Cap K m) (x s : L) : Cap K (write m x s).2 := by
 unfold Pl.write
 (repeat' split) <;> exact h
theorem Cap.sync (h : Cap K m) (x : L) : Cap K (sync m x).2 := by
 unfold Pl.sync
 (repeat' split) <;> exact h
theorem Cap.remove (h : Cap K m) (x : L) : Cap K (remove m x).2 := by
 rcases remove_at (m := m) (x := x) with ⟨e, _⟩ | ⟨_, e⟩
 ·rw [e]
  exact h
 ·rw [e]
  exact h.less rfl (ts := [(x, none)]) rfl (fun t ht => by rw [List.mem_singleton.1 ht])
theorem Cap.syncDir (h : Cap K m) : Cap K (syncDir m).2 := by
 unfold Pl.syncDir
 split
 ·exact h
 ·intro j
  show (after m.now (([] : List Stp).take j)).length ≤ K
  rw [List.take_nil]
  exact h.now
theorem Cap.rename (h : Cap K m) (x y : L) : Cap (K + 1) (rename m x y).2 := by
 have hm := h.mono (Nat.le_succ K)
 unfold Pl.rename
 split
 ·exact hm
 ·split
  ·exact hm
  ·split
   ·exact hm
   ·rename_i k _ _ _
    by_cases e : x = y
    ·simp only [e, if_true]
     exact hm
    ·simp only [e, if_false]
     intro j
     show (after m.safe ((m.steps ++ [(y, some k), (x, none)]).take j)).length ≤ K + 1
     rw [List.take_append, after_append]
     have h2 := h j
     have key : ∀ i, (after (after m.safe (m.steps.take j)) ([(y, some k), (x, none)].take i)).length ≤ (after m.safe (m.steps.take j)).length + 1 := by
      intro i
      match i with
      | 0 => exact Nat.le_succ _
      | 1 => exact put_len (after m.safe (m.steps.take j)) (y, some k)
      | i + 2 =>
       have : ([(y, some k), (x, none)] : List Stp).take (i + 2) = [(y, some k), (x, none)] := List.take_of_length_le (by simp)
       rw [this]
       exact Nat.le_trans (rid_len _ _) (put_len _ _)
     have := key (j - m.steps.length)
     omega
theorem Cap.crash (h : Cap K m) (a b : Int) : Cap K (crash m a b) := by
 intro j
 show (after (after m.safe (m.steps.take (clamp a m.steps.length))) (([] : List Stp).take j)).length ≤ K
 rw [List.take_nil]
 exact h _
theorem Cap.limit (h : Cap K m) (k : Int) : Cap K (limit m k) := h
theorem Cap.put3 (h : Cap K m) (x s : L) : Cap (K + 1) (put3 m x s).2 := by
 unfold Pl.put3
 split
 ·split
  ·exact ((h.create x).write x s).sync x
  ·exact (h.create x).write x s
 ·exact h.create x
theorem Cap.goAll : ∀ (l : List L) {m : Mach}, Cap K m → Cap K (goAll l m).2
 | [], _, h => h
 | x :: r, m, h => by
  unfold Pl.goAll
  split
  ·exact Cap.goAll r (h.remove x)
  ·exact h.remove x
theorem Cap.sweep (h : Cap K m) (v : VM) : Cap K (sweep v m).2 := by
 unfold Pl.sweep
 split
 ·exact h
 ·split
  ·exact (Cap.goAll _ h).syncDir
  ·exact Cap.goAll _ h
theorem gone_len {C : Nat} (v : VM) (h : Cap K m) : ((list m).filter fun x => !v.keeps x).length ≤ K := by
 refine Nat.le_trans (List.length_filter_le _ _) ?_
 unfold list
 rw [List.length_map]
 exact h.now
end
/-- Each name is one that may be. -/
structure Named (m : Mach) : Prop where
  safe : ∀ p ∈ m.safe, nameOk p.1 = true
  steps : ∀ s ∈ m.steps, nameOk s.1 = true
section
variable {C K : Nat} {m : Mach}
theorem Named.after (h : Named m) {l : List Stp} (hl : ∀ s ∈ l, s ∈ m.steps) : ∀ p ∈ after m.safe l, nameOk p.1 = true := by
 intro p hp
 rcases mem_after l m.safe p hp with h1 | h1
 ·exact h.safe p h1
 ·exact h.steps _ (hl _ h1)
theorem Named.now (h : Named m) : ∀ p ∈ m.now, nameOk p.1 = true := h.after (fun _ h => h)
theorem Named.found (h : Named m) {x : L} {k : Nat} (hk : m.find x = some k) : nameOk x = true := h.now _ (look_mem hk)
theorem Named.fresh (room : Int) : Named (fresh room) := ⟨fun p hp => by simp [Pl.fresh] at hp, fun p hp => by simp [Pl.fresh] at hp⟩
theorem nameOk_len {x : L} (h : nameOk x = true) : x.length ≤ 32 := by
 unfold nameOk at h
 simp only [Bool.and_eq_true, decide_eq_true_eq] at h
 exact h.1.2
theorem Named.more {m' : Mach} {ts : List Stp} (h : Named m) (hs : m'.safe = m.safe) (ht : m'.steps = m.steps ++ ts) (hn : ∀ t ∈ ts, nameOk t.1 = true) : Named m' := by
 refine ⟨by rw [hs]; exact h.safe, fun s hm => ?_⟩
 rw [ht] at hm
 rcases List.mem_append.1 hm with h1 | h1
 ·exact h.steps s h1
 ·exact hn s h1
theorem Named.create (h : Named m) (x : L) : Named (create m x).2 := by
 by_cases h1 : (Pl.create m x).1 = 0
 ·obtain ⟨e, _, hn, _⟩ := createM_ok h1
  rw [e]
  exact h.more rfl (ts := [(x, some m.files.length)]) rfl (fun t ht => by rw [List.mem_singleton.1 ht]; exact hn)
 ·rw [createM_bad h1]
  exact h
theorem Named.write (h : Named m) (x s : L) : Named (write m x s).2 := by
 unfold Pl.write
 (repeat' split) <;> first | exact h | exact ⟨h.safe, h.steps⟩
theorem Named.sync (h : Named m) (x : L) : Named (sync m x).2 := by
 unfold Pl.sync
 (repeat' split) <;> first | exact h | exact ⟨h.safe, h.steps⟩
theorem Named.remove (h : Named m) (x : L) : Named (remove m x).2 := by
 unfold Pl.remove
 split
 ·exact h
 ·rename_i hk
  split
  ·exact h
  ·exact h.more rfl (ts := [(x, none)]) rfl (fun t ht => by rw [List.mem_singleton.1 ht]; exact h.found (by assumption))
theorem Named.syncDir (h : Named m) : Named (syncDir m).2 := by
 unfold Pl.syncDir
 split
 ·exact h
 ·exact ⟨h.now, fun s hs => by simp at hs⟩
theorem Named.rename (h : Named m) (x y : L) : Named (rename m x y).2 := by
 unfold Pl.rename
 split
 ·exact h
 ·rename_i k hk
  split
  ·exact h
  ·rename_i hn
   split
   ·exact h
   ·by_cases e : x = y
    ·simp only [e, if_true]
     exact ⟨h.safe, h.steps⟩
    ·simp only [e, if_false]
     refine h.more rfl (ts := [(y, some k), (x, none)]) rfl (fun t ht => ?_)
     rcases List.mem_cons.1 ht with rfl | ht
     ·show nameOk y = true
      simpa using hn
     ·rw [List.mem_singleton.1 ht]
      exact h.found hk
theorem Named.crash (h : Named m) (a b : Int) : Named (crash m a b) := ⟨h.after (fun s hs => List.mem_of_mem_take hs), fun s hs => by simp [Pl.crash] at hs⟩
theorem Named.limit (h : Named m) (k : Int) : Named (limit m k) := ⟨h.safe, h.steps⟩
/-- All bounds together. -/
structure Good (C K : Nat) (m : Mach) : Prop where
  inv : Inv C m
  cap : Cap K m
  named : Named m
theorem Good.mono {C' K' : Nat} (h : Good C K m) (hC : C ≤ C') (hK : K ≤ K') : Good C' K' m := ⟨h.inv.mono hC, h.cap.mono hK, h.named⟩
theorem Good.fresh (room : Int) (h0 : 0 ≤ room) (h1 : room ≤ 4194304) : Good 0 0 (fresh room) := ⟨fresh_inv room h0 h1 0, Cap.fresh room, Named.fresh room⟩
theorem Good.create (h : Good C K m) (x : L) : Good (C + 2) (K + 1) (create m x).2 := ⟨create_inv h.inv x, h.cap.create x, h.named.create x⟩
theorem Good.write (h : Good C K m) (x s : L) : Good C K (write m x s).2 := ⟨write_inv h.inv x s, h.cap.write x s, h.named.write x s⟩
theorem Good.sync (h : Good C K m) (x : L) : Good C K (sync m x).2 := ⟨sync_inv h.inv x, h.cap.sync x, h.named.sync x⟩
theorem Good.remove (h : Good C K m) (x : L) : Good (C + 2) K (remove m x).2 := ⟨remove_inv h.inv x, h.cap.remove x, h.named.remove x⟩
theorem Good.syncDir (h : Good C K m) : Good C K (syncDir m).2 := ⟨syncDir_inv h.inv, h.cap.syncDir, h.named.syncDir⟩
theorem Good.rename (h : Good C K m) (x y : L) : Good (C + 2) (K + 1) (rename m x y).2 := ⟨rename_inv h.inv x y, h.cap.rename x y, h.named.rename x y⟩
theorem Good.crash (h : Good C K m) (a b : Int) : Good C K (crash m a b) := ⟨crash_inv h.inv a b, h.cap.crash a b, h.named.crash a b⟩
theorem Good.limit (h : Good C K m) (k : Int) (hk : k ≤ 9223372036854775807) : Good C K (limit m k) := ⟨limit_inv h.inv k hk, h.cap.limit k, h.named.limit k⟩
theorem Good.goAll : ∀ (l : List L) {C : Nat} {m : Mach}, Good C K m → Good (C + 2 * l.length) K (goAll l m).2
 | [], _, _, h => h
 | x :: r, C, m, h => by
  have h1 := h.remove x
  unfold Pl.goAll
  split
  ·exact (Good.goAll r h1).mono (by rw [List.length_cons]; omega) (Nat.le_refl _)
  ·exact h1.mono (by rw [List.length_cons]; omega) (Nat.le_refl _)
theorem Good.sweep (h : Good C K m) (v : VM) : Good (C + 2 * K) K (sweep v m).2 := by
 have h1 := (Good.goAll ((list m).filter fun x => !v.keeps x) h).mono (C' := C + 2 * K) (by have := gone_len (C := C) v h.cap; omega) (Nat.le_refl _)
 unfold Pl.sweep
 split
 ·exact h.mono (by omega) (Nat.le_refl _)
 ·split
  ·exact h1.syncDir
  ·exact h1
theorem Good.put3 (h : Good C K m) (x s : L) : Good (C + 2) (K + 1) (put3 m x s).2 := by
 unfold Pl.put3
 split
 ·split
  ·exact ((h.create x).write x s).sync x
  ·exact (h.create x).write x s
 ·exact h.create x
theorem Good.doPuts (c : Codec) (n : Nat) : ∀ (ps : List L) (i : Nat) {C K : Nat} {m : Mach}, Good C K m → Good (C + 2 * ps.length) (K + ps.length) (doPuts c n i ps m).2
 | [], _, _, _, _, h => h
 | s :: r, i, C, K, m, h => by
  have h1 := h.put3 (c.name n i) s
  unfold Pl.doPuts
  split
  ·exact (Good.doPuts c n r (i + 1) h1).mono (by rw [List.length_cons]; omega) (by rw [List.length_cons]; omega)
  ·exact h1.mono (by rw [List.length_cons]; omega) (by rw [List.length_cons]; omega)
theorem Good.stage (c : Codec) (n : Nat) (ps : List L) (lines : L) (h : Good C K m) : Good (C + 2 * ps.length + 4) (K + ps.length + 2) (stage c n ps lines m).2 := by
 have h1 := Good.doPuts c n ps 0 h
 have h2 := h1.put3 newL lines
 have h3 := h2.syncDir
 have h4 := h3.rename newL manL
 unfold Pl.stage
 split
 ·split
  ·split
   ·exact h4.mono (by omega) (by omega)
   ·exact h3.mono (by omega) (by omega)
  ·exact h2.mono (by omega) (by omega)
 ·exact h1.mono (by omega) (by omega)
theorem Good.commitV (c : Codec) (v : VM) (l : List RowM) (ps : List L) (h : Good C K m) : Good (C + 2 * ps.length + 4 + 2 * (K + ps.length + 2)) (K + ps.length + 2) (commitV c v l ps m).2.2 := by
 have h1 := Good.stage c (v.n + 1) ps (c.print (v.n + 1) l) h
 unfold Pl.commitV
 split
 ·split
  ·exact h1.syncDir.sweep _
  ·exact h1.syncDir.mono (by omega) (Nat.le_refl _)
 ·exact h1.sweep _
theorem Good.commitR (c : Codec) (v : VM) (ps : List (L × L)) (gone : List L) (h : Good C K m) : Good (C + 2 * ps.length + 4 + 2 * (K + ps.length + 2)) (K + ps.length + 2) (commitR c v ps gone m).2.2 := by
 unfold Pl.commitR
 split
 ·exact h.mono (by omega) (by omega)
 ·split
  ·exact h.mono (by omega) (by omega)
  ·have := Good.commitV c v (nextR c (v.n + 1) ps gone v.rows) (ps.map (·.2)) h
   rw [List.length_map] at this
   exact this
theorem Good.openV (c : Codec) (h : Good C K m) : Good (C + 2 * K) K (openV c m).2.2 := by
 unfold Pl.openV
 split
 ·exact h.mono (by omega) (Nat.le_refl _)
 ·split
  ·exact h.sweep _
  ·exact h.sweep _
end
end Go.Proofs.YtfpbpakgajddnaaGreatDoor.Pl
/- VsA -/
namespace Go.Proofs.YtfpbpakgajddnaaGreatDoor.Pl
open Go Go.RowKit Go.Maps Go.Proofs.YtfpbpakgajddnaaGreatDoorW.PrintWords
set_option linter.unusedVariables false
set_option linter.unusedSimpArgs false
section
variable {α : Type} {f : α → List Value} {a b c d : α → Value}
theorem four_len (hf : ∀ x, f x = [a x, b x, c x, d x]) : ∀ l : List α, (l.flatMap f).length = l.length * 4
 | [] => rfl
 | x :: l => by
  rw [List.flatMap_cons, List.length_append, four_len hf l, hf, List.length_cons]
  simp
  omega
theorem four_at (hf : ∀ x, f x = [a x, b x, c x, d x]) : ∀ (l : List α) (i : Nat) (x : α), l[i]? = some x → (l.flatMap f)[i * 4]? = some (a x) ∧ (l.flatMap f)[i * 4 + 1]? = some (b x) ∧ (l.flatMap f)[i * 4 + 2]? = some (c x) ∧ (l.flatMap f)[i * 4 + 3]? = some (d x)
 | [], _, _, h => by simp at h
 | y :: l, 0, x, h => by
  have e : y = x := by simpa using h
  subst e
  rw [List.flatMap_cons, hf]
  exact ⟨rfl, rfl, rfl, rfl⟩
 | y :: l, i + 1, x, h => by
  have h1 := four_at hf l i x (by simpa using h)
  rw [List.flatMap_cons, hf]
  have e : (i + 1) * 4 = i * 4 + 1 + 1 + 1 + 1 := by omega
  rw [e]
  exact h1
theorem four_one (hf : ∀ x, f x = [a x, b x, c x, d x]) (ha : ∀ x, (a x).oneCell' = true) (hb : ∀ x, (b x).oneCell' = true) (hc : ∀ x, (c x).oneCell' = true) (hd : ∀ x, (d x).oneCell' = true) (l : List α) : ∀ u ∈ l.flatMap f, u.oneCell' = true := by
 intro u hu
 obtain ⟨x, _, hx⟩ := List.mem_flatMap.1 hu
 rw [hf] at hx
 simp only [List.mem_cons, List.not_mem_nil, or_false] at hx
 rcases hx with rfl | rfl | rfl | rfl
 ·exact ha x
 ·exact hb x
 ·exact hc x
 ·exact hd x
theorem four_drop (hf : ∀ x, f x = [a x, b x, c x, d x]) : ∀ (l : List α) (i : Nat), (l.flatMap f).drop (i * 4) = (l.drop i).flatMap f
 | [], i => by simp
 | y :: l, 0 => by simp
 | y :: l, i + 1 => by
  have h1 := four_drop hf l i
  rw [List.flatMap_cons, hf, List.drop_succ_cons, ← h1]
  have e : (i + 1) * 4 = i * 4 + 1 + 1 + 1 + 1 := by omega
  rw [e]
  rfl
theorem four_take (hf : ∀ x, f x = [a x, b x, c x, d x]) : ∀ (l : List α) (i : Nat), (l.flatMap f).take (i * 4) = (l.take i).flatMap f
 | [], i => by simp
 | y :: l, 0 => by simp
 | y :: l, i + 1 => by
  have h1 := four_take hf l i
  rw [List.flatMap_cons, hf, List.take_succ_cons, List.flatMap_cons, hf, ← h1]
  have e : (i + 1) * 4 = i * 4 + 1 + 1 + 1 + 1 := by omega
  rw [e]
  rfl
end
def rowC (r : RowM) : List Value := [.string (mkB r.name), .string (mkB r.file), .int .i64 (r.size : Int), .int .i64 (r.sum : Int)]
def rowsC (l : List RowM) : List Value := l.flatMap rowC
theorem rowsC_len (l : List RowM) : (rowsC l).length = l.length * 4 := four_len (fun _ => rfl) l
theorem rowsC_at (l : List RowM) (i : Nat) (r : RowM) (h : l[i]? = some r) : (rowsC l)[i * 4]? = some (.string (mkB r.name)) ∧ (rowsC l)[i * 4 + 1]? = some (.string (mkB r.file)) ∧ (rowsC l)[i * 4 + 2]? = some (.int .i64 (r.size : Int)) ∧ (rowsC l)[i * 4 + 3]? = some (.int .i64 (r.sum : Int)) := four_at (fun _ => rfl) l i r h
theorem rowsC_one (l : List RowM) : ∀ u ∈ rowsC l, u.oneCell' = true := four_one (fun _ => rfl) (fun _ => rfl) (fun _ => rfl) (fun _ => rfl) (fun _ => rfl) l
abbrev OwnRows (w : World) (base : Nat) (v : Value) (l : List RowM) : Prop := w.ownsRow base 120 4 v l.length (rowsC l)
theorem own_bel {w w1 : World} {base e size n : Nat} {v : Value} {xs : List Value} (h : w.ownsRow base e size v n xs) (hb : Below w.heap.size w w1) : w1.ownsRow base e size v n xs :=
 own_move h (fun k hk => by
  obtain ⟨_, e⟩ := row_block h hk
  exact hb.block k (blk_lt e))
theorem own_tch {w w1 : World} {F : Nat → Prop} {base e size n : Nat} {v : Value} {xs : List Value} (h : w.ownsRow base e size v n xs) (ht : Tch F w w1) (hF : ∀ k, v.ownBlock = some k → ¬ F k) : w1.ownsRow base e size v n xs :=
 own_move h (fun k hk => by
  obtain ⟨_, e⟩ := row_block h hk
  exact ht.block k (blk_lt e) (hF k hk))
theorem row_len {w : World} {base e size n : Nat} {v : Value} {xs : List Value} (h : w.ownsRow base e size v n xs) : n ≤ maxLen := by
 rcases h.2 with ⟨_, h2⟩ | ⟨g, cap, cur, _, _, _, h2, h3, _⟩
 ·omega
 ·omega
theorem row_blk {w : World} {base e size n i c : Nat} {A : Option Addr} {xs : List Value} (h : w.ownsRow base e size (.slice A n c) n xs) (hn : i < n) : ∃ g, A = some ⟨g, 0, none⟩ ∧ base ≤ g ∧ g < w.heap.size := by
 rcases h.2 with ⟨h1, h2⟩ | ⟨g, cap, cur, h1, hb, hg, _⟩
 ·injection h1 with e1 e2 e3
  omega
 ·injection h1 with e1 e2 e3
  exact ⟨g, e1, hb, blk_lt hg⟩
theorem row_room {w : World} {base e size n c : Nat} {A : Option Addr} {xs : List Value} (h : w.ownsRow base e size (.slice A n c) n xs) : n ≤ c ∧ c ≤ maxLen := by
 rcases h.2 with ⟨h1, h2⟩ | ⟨g, cap, cur, h1, _, _, h2, h3, _⟩
 ·injection h1 with e1 e2 e3
  omega
 ·injection h1 with e1 e2 e3
  omega
abbrev Rw := P.S120
def toR (r : RowM) : Rw := ⟨mkB r.name, mkB r.file, (r.size : Int), (r.sum : Int)⟩
theorem reps_toR (w : World) (l : List RowM) : Reps (P.k120.K w) 4 (l.map toR) (rowsC l) := by
 refine ⟨by rw [rowsC_len, List.length_map], fun j p hj => ?_⟩
 rw [List.getElem?_map] at hj
 obtain ⟨q, hq, rfl⟩ := Option.map_eq_some_iff.1 hj
 have e : ((rowsC l).drop (j * 4)).take 4 = rowC q := by
  unfold rowsC
  rw [four_drop (f := rowC) (fun _ => rfl)]
  have e2 : l.drop j = q :: l.drop (j + 1) := by
   obtain ⟨h1, h2⟩ := List.getElem?_eq_some_iff.1 hq
   rw [← h2]
   exact List.drop_eq_getElem_cons h1
  rw [e2, List.flatMap_cons]
  rfl
 rw [e]
 exact P.k120_mk w (toR q)
/-- Cells of a row of rows that the print tells of. -/
theorem rows_of {w : World} {base : Nat} {ok : Nat → Prop} {v : Value} {l : List RowM} (h : P.k120.R 120 w base ok v (l.map toR)) : OwnRows w base v l := by
 obtain ⟨_, inner, ho, hlen, hr⟩ := h
 have hin : inner = rowsC l := by
  have hl : inner.length = l.length * 4 := by rw [hlen, List.length_map]; rfl
  refine List.ext_getElem? (fun i => ?_)
  rcases Nat.lt_or_ge i (l.length * 4) with hi | hi
  ·obtain ⟨q, hq⟩ : ∃ q, l[i / 4]? = some q := ⟨_, List.getElem?_eq_getElem zb13⟩
   have h1 := hr (i / 4) (toR q) (by rw [List.getElem?_map, hq]; rfl)
   have h2 := P.k120_openM h1
   obtain ⟨c1, c2, c3, c4⟩ := rowsC_at l (i / 4) q hq
   have hd : ∀ t, t < 4 → inner[i / 4 * 4 + t]? = [Value.string (toR q).f0, Value.string (toR q).f1, Value.int .i64 (toR q).f2, Value.int .i64 (toR q).f3][t]? := fun t ht => by
    rw [← h2, List.getElem?_take, if_pos (show t < P.k120.sz from ht), List.getElem?_drop]
    rfl
   have hm : i % 4 = 0 ∨ i % 4 = 1 ∨ i % 4 = 2 ∨ i % 4 = 3 := by omega
   rcases hm with hm | hm | hm | hm
   ·have e : i = i / 4 * 4 + 0 := by omega
    rw [e, hd 0 zb13]
    exact c1.symm
   ·have e : i = i / 4 * 4 + 1 := by omega
    rw [e, hd 1 zb13]
    exact c2.symm
   ·have e : i = i / 4 * 4 + 2 := by omega
    rw [e, hd 2 zb13]
    exact c3.symm
   ·have e : i = i / 4 * 4 + 3 := by omega
    rw [e, hd 3 zb13]
    exact c4.symm
  ·rw [List.getElem?_eq_none zb13, List.getElem?_eq_none (by rw [rowsC_len]; omega)]
 rw [hin, List.length_map] at ho
 exact ho
def vtopC (bp n : Nat) (rv : Value) : Obj := .cells #[.pointer (some ⟨bp, 0, none⟩), .int .i64 (n : Int), rv] 104 (0, 0)
/-- The vault at block vb, over the plate at bp. -/
structure VP (w : World) (vb bp : Nat) (v : VM) (rv : Value) : Prop where
  top : w.heap[vb]? = some (vtopC bp v.n rv)
  rows : OwnRows w 0 rv v.rows
def vfoot (vb : Nat) (rv : Value) (i : Nat) : Prop := i = vb ∨ rv.ownBlock = some i
section
variable {w w' : World} {vb bp : Nat} {v : VM} {rv : Value} {F H : Nat → Prop} {m : Mach}
theorem VP.move (h : VP w vb bp v rv) (hm : ∀ i, vfoot vb rv i → w'.heap[i]? = w.heap[i]?) : VP w' vb bp v rv := ⟨(hm _ (.inl rfl)).trans h.top, own_move h.rows (fun k hk => hm _ (.inr hk))⟩
theorem VP.lt (h : VP w vb bp v rv) {i : Nat} (hi : vfoot vb rv i) : i < w.heap.size := by
 rcases hi with rfl | hi
 ·exact blk_lt h.top
 ·obtain ⟨_, e⟩ := row_block h.rows hi
  exact blk_lt e
theorem VP.tch (h : VP w vb bp v rv) (ht : Tch F w w') (hF : ∀ i, vfoot vb rv i → ¬ F i) : VP w' vb bp v rv := h.move (fun i hi => ht.block i (h.lt hi) (hF i hi))
theorem VP.ne (h : VP w vb bp v rv) : rv.ownBlock ≠ some vb := by
 intro e
 obtain ⟨_, e2⟩ := row_block h.rows e
 exact cells_ne h.top e2 zb25 rfl
/-- A vault and its plate, side by side, in the blocks H. -/
structure VS (w : World) (vb bp : Nat) (v : VM) (m : Mach) (rv : Value) (F H : Nat → Prop) : Prop where
  vp : VP w vb bp v rv
  plate : Plate w bp m F
  apart : ∀ i, vfoot vb rv i → ¬ F i
  inF : ∀ i, F i → H i
  inV : ∀ i, vfoot vb rv i → H i
end
/-- The first place at which p holds, or -1. -/
def idxI {α : Type} (p : α → Bool) : List α → Nat → Int
  | [], _ => -1
  | x :: r, i => if p x then (i : Int) else idxI p r (i + 1)
theorem idxI_ge {α : Type} (p : α → Bool) : ∀ (l : List α) (i : Nat), decide (0 ≤ idxI p l i) = l.any p
 | [], i => by simp [idxI]
 | x :: r, i => by
  unfold idxI
  rw [List.any_cons]
  cases h : p x with
  | true => rw [if_pos rfl]; simp
  | false =>
   rw [if_neg (by decide), Bool.false_or]
   exact idxI_ge p r (i + 1)
theorem idxI_drop {α : Type} (p : α → Bool) : ∀ (i : Nat) (l : List α), (∀ j x, j < i → l[j]? = some x → p x = false) → i ≤ l.length → idxI p l 0 = idxI p (l.drop i) i
 | 0, l, _, _ => rfl
 | i + 1, l, h, hl => by
  rw [idxI_drop p i l (fun j x hj => h j x (by omega)) (by omega)]
  obtain ⟨x, hx⟩ : ∃ x, l[i]? = some x := ⟨_, List.getElem?_eq_getElem (by omega)⟩
  have e : l.drop i = x :: l.drop (i + 1) := by
   obtain ⟨h1, h2⟩ := List.getElem?_eq_some_iff.1 hx
   rw [← h2]
   exact List.drop_eq_getElem_cons h1
  rw [e]
  conv => lhs; unfold idxI
  rw [h i x (by omega) hx, if_neg (by decide)]
/-- A function of a row: it answers p, whatever has turned in the blocks F, and touches nothing. -/
def RowAsk (g : FuncId) (lb : Array Value) (F : Nat → Prop) (p : RowM → Bool) (l : List RowM) (w : World) : Prop :=
  ∀ (W : World) (r : RowM), r ∈ l → Tch F w W → Calls Tryz.prog g (#[.agg #[.string (mkB r.name), .string (mkB r.file), .int .i64 (r.size : Int), .int .i64 (r.sum : Int)]] ++ lb) W fun e w' => e = .returned (.bool (p r)) ∧ Below W.heap.size W w'
theorem RowAsk.tch {g : FuncId} {lb : Array Value} {F : Nat → Prop} {p : RowM → Bool} {l : List RowM} {w w1 : World} (h : RowAsk g lb F p l w) (t : Tch F w w1) : RowAsk g lb F p l w1 := fun W r hr t1 => h W r hr (t.trans t1 (fun k hk => .inl hk))
theorem RowAsk.below {g : FuncId} {lb : Array Value} {F : Nat → Prop} {p : RowM → Bool} {l : List RowM} {w w1 : World} (h : RowAsk g lb F p l w) (b : Below w.heap.size w w1) : RowAsk g lb F p l w1 := h.tch (.of_below b)
section
variable {w w' : World} {g : FuncId} {lb : Array Value} {F : Nat → Prop} {p : RowM → Bool} {A : Option Addr} {c : Nat} {l : List RowM}
set_option maxRecDepth 100000 in
set_option maxHeartbeats 4000000 in
theorem indexRows (eg : ∀ args w, (callFunc g args).run Tryz.prog w = .ok (.enter g args) w) (hr : OwnRows w 0 (.slice A l.length c) l) (hp : RowAsk g lb F p l w) :
  Calls Tryz.prog 132 #[.slice A l.length c, .func (.func g) #[] lb] w fun e w' => e = .returned (.int .i64 (idxI p l 0)) ∧ Below w.heap.size w w' := by
 have HR := Lib.hid hr
 have HP := Lib.hid hp
 have hlen : l.length ≤ 9223372036854775807 := by
  have := row_len hr
  unfold maxLen at this
  omega
 clear hr hp
 go_enter Tryz.func132, Tryz.ntmps132
 go_wp2
 go_loopw [5, 8] (fun _ v8 wr => ∃ (i : Nat), v8 = Value.int .i64 (i : Int) ∧ i ≤ l.length ∧ Below w.heap.size w wr ∧ (∀ j x, j < i → l[j]? = some x → p x = false))
  (fun _ v8 _ => l.length - (intOf v8).toNat)
 case atStart => exact ⟨0, rfl, Nat.zero_le _, Below.refl _ _, fun j x hj => absurd hj (Nat.not_lt_zero _)⟩
 case round =>
  obtain ⟨i, rfl, hil, hb, hno⟩ := hrel
  have HB := Lib.hid hb
  have HN := Lib.hid hno
  clear hb hno
  by_cases hlt : i < l.length
  ·have hdec : ((i : Int) < (l.length : Int)) := by omega
   have hrow := own_bel HR.out HB.out
   obtain ⟨b, rfl, _, _⟩ := row_blk hrow hlt
   obtain ⟨r, hx⟩ : ∃ r, l[i]? = some r := ⟨_, List.getElem?_eq_getElem hlt⟩
   obtain ⟨s0, s1, s2, s3⟩ := rowsC_at l i r hx
   have c0 := (hrow.cellAt (i * 4) (show i * 4 < l.length * 4 by omega)).trans s0
   have c1 := (hrow.cellAt (i * 4 + 1) (show i * 4 + 1 < l.length * 4 by omega)).trans s1
   have c2 := (hrow.cellAt (i * 4 + 2) (show i * 4 + 2 < l.length * 4 by omega)).trans s2
   have c3 := (hrow.cellAt (i * 4 + 3) (show i * 4 + 3 < l.length * 4 by omega)).trans s3
   have HX := Lib.hid hx
   have HC := Lib.hid (HP.out.below HB.out _ r (List.mem_of_getElem? HX.out) (Tch.refl _ _))
   clear s0 s1 s2 s3 hrow hx
   have e0 := Lib.hid (idxI_drop p i l HN.out hil)
   have e1 : l.drop i = r :: l.drop (i + 1) := by
    obtain ⟨h1, h2⟩ := List.getElem?_eq_some_iff.1 HX.out
    rw [← h2]
    exact List.drop_eq_getElem_cons h1
   have E1 := Lib.hid e1
   clear e1
   cases hq : p r with
   | true =>
    rw [hq] at HC
    go_wp2_with (first
     | (go_at_fn g; refine HC.out.mono ?_; rintro e w2 ⟨rfl, hb2⟩)
     | go_in)
    go_ret
    refine ⟨?_, HB.out.trans (hb2.mono HB.out.size)⟩
    rw [e0.out, E1.out]
    unfold idxI
    rw [hq, if_pos rfl]
    rfl
   | false =>
    rw [hq] at HC
    go_wp2_with (first
     | (go_at_fn g; refine HC.out.mono ?_; rintro e w2 ⟨rfl, hb2⟩)
     | go_in)
    go_roundw
    case rel =>
     refine ⟨i + 1, by push_cast; rfl, by omega, HB.out.trans (hb2.mono HB.out.size), fun j x hj hjx => ?_⟩
     by_cases e : j = i
     ·subst e
      rw [HX.out] at hjx
      obtain rfl := Option.some.inj hjx
      exact hq
     ·exact HN.out j x (by omega) hjx
    case measure =>
     show l.length - ((i : Int) + 1).toNat < l.length - (i : Int).toNat
     omega
  ·have hdec : ¬ ((i : Int) < (l.length : Int)) := by omega
   have hin : i = l.length := by omega
   subst hin
   have e0 := Lib.hid (idxI_drop p l.length l HN.out hil)
   go_wp2
   go_ret
   refine ⟨?_, HB.out⟩
   rw [e0.out, List.drop_length]
   rfl
theorem containsRows (eg : ∀ args w, (callFunc g args).run Tryz.prog w = .ok (.enter g args) w) (hr : OwnRows w 0 (.slice A l.length c) l) (hp : RowAsk g lb F p l w) :
  Calls Tryz.prog 92 #[.slice A l.length c, .func (.func g) #[] lb] w fun e w' => e = .returned (.bool (l.any p)) ∧ Below w.heap.size w w' := by
 have HI := Lib.hid (indexRows eg hr hp)
 have hg := idxI_ge p l 0
 generalize l.any p = q at *
 have HG := Lib.hid hg
 clear hr hp hg
 go_enter Tryz.func92, Tryz.ntmps92
 go_wp2_with (first
  | (go_at_call 132; refine HI.out.mono ?_; rintro e w2 ⟨rfl, hb2⟩)
  | go_in)
 go_ret
 refine ⟨?_, hb2⟩
 rw [← HG.out]
 rfl
end
def Blk (w : World) (b : Nat) (e : TypeId) (cs : List Value) : Prop := w.heap[b]? = some (.cells cs.toArray e (0, 0))
theorem Blk.set {w : World} {b : Nat} {e : TypeId} {cs : List Value} (h : Blk w b e cs) (i : Nat) (u : Value) : Blk (w.setCell ⟨b, i, none⟩ u) b e (cs.set i u) := by
 have := set_same h i u
 unfold Blk
 rw [this]
 simp
theorem Blk.cell {w : World} {b : Nat} {e : TypeId} {cs : List Value} (h : Blk w b e cs) (i : Nat) : w.cell? ⟨b, i, none⟩ = cs[i]? := by
 rw [cell_at h i]
 simp
theorem Blk.melt {w : World} {b : Nat} {e : TypeId} {cs : List Value} (h : Blk w b e cs) (i : Nat) : w.frozen? ⟨b, i, none⟩ = false := melt_at h i
theorem Blk.tch {w w1 : World} {F : Nat → Prop} {b : Nat} {e : TypeId} {cs : List Value} (h : Blk w b e cs) (ht : Tch F w w1) (hF : ¬ F b) : Blk w1 b e cs := ht.keep h hF
theorem Blk.below {w w1 : World} {b : Nat} {e : TypeId} {cs : List Value} (h : Blk w b e cs) (hb : Below w.heap.size w w1) : Blk w1 b e cs := h.tch (F := fun _ => False) (.of_below hb) id
theorem list_set_eq (cs : List Value) (o : Nat) (v : Value) (h : o < cs.length) : cs.set o v = cs.take o ++ v :: cs.drop (o + 1) := by
 rw [List.set_eq_take_append_cons_drop, if_pos h]
theorem Blk.cells {b : Nat} {e : TypeId} : ∀ (vs : List Value) (o : Nat) {w : World} {cs : List Value}, Blk w b e cs → o + vs.length ≤ cs.length → Blk (w.setCells b o vs) b e (cs.take o ++ vs ++ cs.drop (o + vs.length))
 | [], o, w, cs, h, _ => by
  have e1 : cs.take o ++ [] ++ cs.drop (o + ([] : List Value).length) = cs := by simp
  rw [e1]
  exact h
 | v :: r, o, w, cs, h, hl => by
  have hlt : o < cs.length := by rw [List.length_cons] at hl; omega
  have h1 := Blk.cells r (o + 1) (h.set o v) (by rw [List.length_set]; rw [List.length_cons] at hl; omega)
  have e1 : (cs.set o v).take (o + 1) = cs.take o ++ [v] := by
   rw [list_set_eq cs o v hlt, List.take_append, List.take_of_length_le (by rw [List.length_take]; omega), List.length_take, Nat.min_eq_left (by omega)]
   congr 1
   rw [show o + 1 - o = 1 by omega]
   rfl
  have e2 : (cs.set o v).drop (o + 1 + r.length) = cs.drop (o + (v :: r).length) := by
   rw [List.length_cons, show o + (r.length + 1) = o + 1 + r.length by omega]
   exact List.drop_set_of_lt (by omega)
  rw [e1, e2] at h1
  have e3 : cs.take o ++ [v] ++ r ++ cs.drop (o + (v :: r).length) = cs.take o ++ (v :: r) ++ cs.drop (o + (v :: r).length) := by simp
  rw [e3] at h1
  exact h1
theorem tch_cells (b : Nat) : ∀ (vs : List Value) (o : Nat) (w : World), Tch (fun k => k = b) w (w.setCells b o vs)
 | [], _, w => Tch.refl _ w
 | v :: r, o, w => ((Tch.refl (fun k => k = b) w).andSet (p := ⟨b, o, none⟩) v (.inl rfl)).trans (tch_cells b r (o + 1) _) (fun k hk => .inl hk)
/-- A row in a block. -/
theorem own_blk_open {w : World} {base e size n c b : Nat} {xs : List Value} (h : w.ownsRow base e size (.slice (some ⟨b, 0, none⟩) n c) n xs) :
  ∃ cs, Blk w b e cs ∧ cs.length = c * size ∧ cs.take (n * size) = xs ∧ base ≤ b ∧ n ≤ c ∧ c ≤ maxLen := by
 rcases h.2 with ⟨h1, h2⟩ | ⟨g, cap, cur, h1, hb, hg, h2, h3, h4, h5⟩
 ·injection h1 with e1
  cases e1
 ·injection h1 with e1 e2 e3
  have e4 : b = g := by injection Option.some.inj e1
  subst e4
  subst e3
  exact ⟨cur.toList, by unfold Blk; rw [hg], by simpa using h4, h5, hb, h2, h3⟩
theorem own_blk_mk {w : World} {base e size n c b : Nat} {cs xs : List Value} (h : Blk w b e cs) (hl : cs.length = c * size) (hx : cs.take (n * size) = xs) (hb : base ≤ b) (hn : n ≤ c) (hc : c ≤ maxLen) : w.ownsRow base e size (.slice (some ⟨b, 0, none⟩) n c) n xs := by
 refine ⟨?_, .inr ⟨b, c, cs.toArray, rfl, hb, h, hn, hc, by simpa using hl, by simpa using hx⟩⟩
 rw [← hx, List.length_take, hl]
 exact Nat.min_eq_left (Nat.mul_le_mul_right _ hn)
/-- An element is set. -/
theorem own_row_set {w : World} {base c b i : Nat} {l : List RowM} (h : OwnRows w base (.slice (some ⟨b, 0, none⟩) l.length c) l) (hi : i < l.length) (r : RowM) :
  OwnRows (w.setCells b (i * 4) (rowC r)) base (.slice (some ⟨b, 0, none⟩) (l.set i r).length c) (l.set i r) := by
 obtain ⟨cs, h1, h2, h3, h4, h5, h6⟩ := own_blk_open h
 have hr : (rowC r).length = 4 := rfl
 have h7 := h1.cells (rowC r) (i * 4) (by rw [hr]; omega)
 rw [hr] at h7
 have hls : (l.set i r).length = l.length := List.length_set
 show World.ownsRow _ base _ 4 (.slice _ (l.set i r).length c) (l.set i r).length _
 rw [hls]
 refine own_blk_mk (cs := cs.take (i * 4) ++ rowC r ++ cs.drop (i * 4 + 4)) h7 ?_ ?_ h4 h5 h6
 ·simp only [List.length_append, List.length_take, List.length_drop, hr]
  omega
 ·have e1 : rowsC (l.set i r) = rowsC (l.take i) ++ rowC r ++ rowsC (l.drop (i + 1)) := by
   rw [List.set_eq_take_append_cons_drop, if_pos hi]
   unfold rowsC
   rw [List.flatMap_append, List.flatMap_cons, List.append_assoc]
  have e2 : rowsC (l.take i) = cs.take (i * 4) := by
   unfold rowsC
   rw [← four_take (f := rowC) (fun _ => rfl)]
   show (rowsC l).take (i * 4) = _
   rw [← h3, List.take_take, Nat.min_eq_left (by omega)]
  have e3 : rowsC (l.drop (i + 1)) = (cs.take (l.length * 4)).drop ((i + 1) * 4) := by
   unfold rowsC
   rw [← four_drop (f := rowC) (fun _ => rfl)]
   show (rowsC l).drop _ = _
   rw [← h3]
  rw [e1, e2, e3, List.take_append, List.take_of_length_le (by rw [List.length_append, List.length_take, hr]; omega)]
  congr 1
  rw [List.drop_take, List.length_append, List.length_take, hr, show (i + 1) * 4 = i * 4 + 4 by omega, Nat.min_eq_left (show i * 4 ≤ cs.length by omega)]
theorem own_row_take {w : World} {base c b i : Nat} {l : List RowM} (h : OwnRows w base (.slice (some ⟨b, 0, none⟩) l.length c) l) (hi : i ≤ l.length) : OwnRows w base (.slice (some ⟨b, 0, none⟩) i c) (l.take i) := by
 obtain ⟨cs, h1, h2, h3, h4, h5, h6⟩ := own_blk_open h
 have e1 : (l.take i).length = i := by rw [List.length_take]; omega
 have e2 : rowsC (l.take i) = cs.take (i * 4) := by
  unfold rowsC
  rw [← four_take (f := rowC) (fun _ => rfl)]
  show (rowsC l).take (i * 4) = _
  rw [← h3, List.take_take, Nat.min_eq_left (by omega)]
 show World.ownsRow _ base _ 4 _ (l.take i).length _
 rw [e1, e2]
 exact own_blk_mk h1 h2 rfl h4 (by omega) h6
theorem zeroCells_len (n : Nat) : (Builtin.zeroCells (Value.agg #[.string ByteArray.empty, .string ByteArray.empty, .int .i64 0, .int .i64 0]).cells n).toList.length = n * 4 := by
 simp [Builtin.zeroCells, Value.cells]
theorem zeroCells_one (n : Nat) : ∀ v ∈ (Builtin.zeroCells (Value.agg #[.string ByteArray.empty, .string ByteArray.empty, .int .i64 0, .int .i64 0]).cells n).toList, v.oneCell' = true := by
 intro v hv
 have e : (Value.agg #[.string ByteArray.empty, .string ByteArray.empty, .int .i64 0, .int .i64 0]).cells = #[.string ByteArray.empty, .string ByteArray.empty, .int .i64 0, .int .i64 0] := rfl
 rw [e] at hv
 simp only [Builtin.zeroCells, Array.toList_map, List.mem_map] at hv
 obtain ⟨j, _, rfl⟩ := hv
 have hj : j % 4 = 0 ∨ j % 4 = 1 ∨ j % 4 = 2 ∨ j % 4 = 3 := by omega
 show ((#[Value.string ByteArray.empty, .string ByteArray.empty, .int .i64 0, .int .i64 0] : Array Value)[j % 4]!).oneCell' = true
 rcases hj with h | h | h | h <;> rw [h] <;> rfl
/-- What lies behind a place is cleared: what lies ahead of it stays. -/
theorem clear_rows {w : World} {base c b i : Nat} {l : List RowM} (h : OwnRows w base (.slice (some ⟨b, 0, none⟩) l.length c) l) (hi : i ≤ l.length) :
  ∃ w', (∀ ty, (Builtin.clear_ #[100] ty #[.slice (some ⟨b, i * 4, none⟩) (l.length - i) (c - i)]).run Tryz.prog w = .ok (.tuple #[]) w') ∧ OwnRows w' base (.slice (some ⟨b, 0, none⟩) i c) (l.take i) ∧ Tch (fun k => k = b) w w' := by
 rcases Nat.eq_zero_or_pos (l.length - i) with h0 | h0
 ·refine ⟨w, fun ty => ?_, own_row_take h hi, Tch.refl _ _⟩
  rw [h0]
  simp [Builtin.clear_, run_underlying Tryz.underlying100]
 ·obtain ⟨cs, h1, h2, h3, h4, h5, h6⟩ := own_blk_open h
  have hz0 : ∀ w, (zeroValue 120).run Tryz.prog w = .ok (.agg #[.string ByteArray.empty, .string ByteArray.empty, .int .i64 0, .int .i64 0]) w := fun w => by kernel_rfl
  obtain ⟨zs, hzs⟩ : ∃ zs, zs = (Builtin.zeroCells (Value.agg #[.string ByteArray.empty, .string ByteArray.empty, .int .i64 0, .int .i64 0]).cells (l.length - i)).toList := ⟨_, rfl⟩
  have hz2 : zs.length = (l.length - i) * 4 := by rw [hzs, zeroCells_len]
  have hz3 : ∀ v ∈ zs, v.oneCell' = true := by
   rw [hzs]
   exact zeroCells_one _
  have hst := run_storeCells_cells (P := Tryz.prog) b (i * 4) zs 0 w (fun j hj => by rw [show i * 4 + 0 + j = i * 4 + j by omega, h1.cell]; rw [List.getElem?_eq_getElem (by omega)]; rfl) (fun j hj => h1.melt _) hz3
  rw [Nat.add_zero] at hst
  refine ⟨w.setCells b (i * 4) zs, fun ty => ?_, ?_, tch_cells b zs (i * 4) w⟩
  ·obtain ⟨m, hm⟩ : ∃ m, l.length - i = m + 1 := ⟨l.length - i - 1, by omega⟩
   rw [hzs] at hst ⊢
   rw [hm] at hst ⊢
   simp [Builtin.clear_, run_underlying Tryz.underlying100, hz0, hst]
  ·have e1 : (l.take i).length = i := by rw [List.length_take]; omega
   have e2 : rowsC (l.take i) = cs.take (i * 4) := by
    unfold rowsC
    rw [← four_take (f := rowC) (fun _ => rfl)]
    show (rowsC l).take (i * 4) = _
    rw [← h3, List.take_take, Nat.min_eq_left (by omega)]
   have h7 := h1.cells zs (i * 4) (by omega)
   show World.ownsRow _ base _ 4 _ (l.take i).length _
   rw [e1, e2]
   refine own_blk_mk h7 ?_ ?_ h4 (by omega) h6
   ·simp only [List.length_append, List.length_take, List.length_drop]
    omega
   ·rw [List.append_assoc, List.take_append, List.take_of_length_le (by rw [List.length_take]; omega), List.length_take, Nat.min_eq_left (by omega), Nat.sub_self, List.take_zero, List.append_nil]
theorem filter_take_succ {α : Type} (q : α → Bool) (l : List α) (j : Nat) (x : α) (hx : l[j]? = some x) : (l.take (j + 1)).filter q = (l.take j).filter q ++ (if q x = true then [x] else []) := by
 rw [List.take_add_one, hx, List.filter_append]
 congr 1
 cases h : q x <;> simp [h]
theorem idxI_none {α : Type} (p : α → Bool) : ∀ (l : List α) (i : Nat), (∀ x ∈ l, p x = false) → idxI p l i = -1
 | [], _, _ => rfl
 | x :: r, i, h => by
  unfold idxI
  rw [h x List.mem_cons_self, if_neg (by decide)]
  exact idxI_none p r (i + 1) (fun y hy => h y (List.mem_cons_of_mem _ hy))
theorem idxI_some {α : Type} (p : α → Bool) : ∀ (l : List α) (i : Nat), (¬ ∀ x ∈ l, p x = false) → ∃ k, k < l.length ∧ idxI p l i = ((i + k : Nat) : Int) ∧ (∀ j x, j < k → l[j]? = some x → p x = false) ∧ (∀ x, l[k]? = some x → p x = true)
 | [], _, h => absurd (fun x hx => by simp at hx) h
 | x :: r, i, h => by
  unfold idxI
  cases hx : p x with
  | true => exact ⟨0, by simp, by rw [if_pos rfl, Nat.add_zero], fun j y hj => absurd hj (Nat.not_lt_zero _), fun y hy => (Option.some.inj (show some x = some y from hy)) ▸ hx⟩
  | false =>
   obtain ⟨k, h1, h2, h3, h4⟩ := idxI_some p r (i + 1) (fun hr => h (fun y hy => by
    rcases List.mem_cons.1 hy with rfl | hy
    ·exact hx
    ·exact hr y hy))
   refine ⟨k + 1, by simpa using h1, by rw [if_neg (by decide), h2, show i + 1 + k = i + (k + 1) by omega], fun j y hj hjy => ?_, fun y hy => h4 y (by simpa using hy)⟩
   cases j with
   | zero =>
    obtain rfl : x = y := by simpa using hjy
    exact hx
   | succ j => exact h3 j y (by omega) (by simpa using hjy)
section
variable {w w' : World} {g : FuncId} {lb : Array Value} {p : RowM → Bool} {A : Option Addr} {c base : Nat} {l : List RowM}
set_option maxRecDepth 100000 in
set_option maxHeartbeats 4000000 in
theorem deleteRows (eg : ∀ args w, (callFunc g args).run Tryz.prog w = .ok (.enter g args) w) (hr : OwnRows w base (.slice A l.length c) l) (hp : RowAsk g lb (fun k => (Value.slice A l.length c).ownBlock = some k) p l w) :
  Calls Tryz.prog 98 #[.slice A l.length c, .func (.func g) #[] lb] w fun e w' => ∃ v', e = .returned v' ∧ OwnRows w' base v' (l.filter fun r => !p r) ∧ Tch (fun k => (Value.slice A l.length c).ownBlock = some k) w w' ∧ (v'.ownBlock = (Value.slice A l.length c).ownBlock) := by
 have HI := Lib.hid (indexRows eg (own_weaken hr (Nat.zero_le _)) hp)
 have HR := Lib.hid hr
 have HP := Lib.hid hp
 have hlen : c ≤ 9223372036854775807 := (row_room hr).2
 have hlc := (row_room hr).1
 clear hr hp
 by_cases hall : ∀ x ∈ l, p x = false
 ·have hidx : idxI p l 0 = -1 := idxI_none p l 0 hall
  have hfl : (l.filter fun r => !p r) = l := List.filter_eq_self.2 (fun x hx => by rw [hall x hx]; rfl)
  have HF := Lib.hid hfl
  clear hfl
  rw [hidx] at HI
  go_enter Tryz.func98, Tryz.ntmps98
  go_wp2_with (first
   | (go_at_call 132; refine HI.out.mono ?_; rintro e w2 ⟨rfl, hb2⟩; have B2 := Lib.hid hb2; clear hb2)
   | go_in)
  go_ret
  refine ⟨_, rfl, ?_, .of_below B2.out, rfl⟩
  rw [HF.out]
  exact own_bel HR.out B2.out
 ·obtain ⟨i0, hi0, hidx, hfirst, hhit⟩ := idxI_some p l 0 hall
  rw [Nat.zero_add] at hidx
  rw [hidx] at HI
  have HFI := Lib.hid hfirst
  have HHI := Lib.hid hhit
  obtain ⟨b, rfl, hb, hbl⟩ := row_blk HR.out hi0
  have hn1 : ((i0 : Int) == -1) = false := beq_eq_false_iff_ne.2 (by omega)
  clear hfirst hhit hidx hall
  go_enter Tryz.func98, Tryz.ntmps98
  go_wp2_with (first
   | (go_at_call 132; refine HI.out.mono ?_; rintro e w2 ⟨rfl, hb2⟩; have B2 := Lib.hid hb2; clear hb2)
   | go_in)
  go_loopw [5, 6, 7] (fun v5 v6 _ wr => ∃ (i j : Nat) (cur : List RowM), v5 = Value.int .i64 (i : Int) ∧ v6 = Value.int .i64 (j : Int) ∧ i < j ∧ j ≤ l.length ∧ cur.length = l.length ∧ OwnRows wr base (.slice (some ⟨b, 0, none⟩) cur.length c) cur ∧ Tch (fun k => k = b) w wr ∧ cur.take i = (l.take j).filter (fun r => !p r) ∧ cur.drop j = l.drop j)
   (fun _ v6 _ _ => l.length - (intOf v6).toNat)
  case atStart =>
   refine ⟨i0, i0 + 1, l, rfl, by push_cast; rfl, by omega, by omega, rfl, own_bel HR.out B2.out, .of_below B2.out, ?_, rfl⟩
   obtain ⟨x, hx⟩ : ∃ x, l[i0]? = some x := ⟨_, List.getElem?_eq_getElem hi0⟩
   rw [filter_take_succ _ l i0 x hx, HHI.out x hx, if_neg (by decide), List.append_nil]
   refine (List.filter_eq_self.2 (fun y hy => ?_)).symm
   obtain ⟨j, hj, hjy⟩ := List.mem_take_iff_getElem.1 hy
   rw [HFI.out j y (by omega) (by rw [← hjy]; exact List.getElem?_eq_getElem (by omega))]
   rfl
  case round =>
   obtain ⟨i, j, cur, rfl, rfl, hij, hjl, hcl, hrow, ht, htake, hdrop⟩ := hrel
   have HT := Lib.hid ht
   have HTK := Lib.hid htake
   have HDR := Lib.hid hdrop
   have HCL := Lib.hid hcl
   clear ht htake hdrop
   by_cases hlt : j < l.length
   ·have hdec : ((j : Int) < (l.length : Int)) := by omega
    have hjc : j < cur.length := by omega
    have hic : i < cur.length := by omega
    obtain ⟨r, hx⟩ : ∃ r, cur[j]? = some r := ⟨_, List.getElem?_eq_getElem hjc⟩
    obtain ⟨s0, s1, s2, s3⟩ := rowsC_at cur j r hx
    obtain ⟨o, ho⟩ : ∃ o, cur[i]? = some o := ⟨_, List.getElem?_eq_getElem hic⟩
    obtain ⟨o0, o1, o2, o3⟩ := rowsC_at cur i o ho
    have HW := Lib.hid hrow
    have hbw : b < wr.heap.size := (row_blk hrow hjc).elim (fun g hg => by obtain ⟨e, _, h⟩ := hg; injection Option.some.inj e with e; omega)
    have k1 : ¬ b = wr.heap.size := by omega
    have k2 : ¬ wr.heap.size = b := by omega
    have c0 := (hrow.cellAt (j * 4) (show j * 4 < cur.length * 4 by omega)).trans s0
    have c1 := (hrow.cellAt (j * 4 + 1) (show j * 4 + 1 < cur.length * 4 by omega)).trans s1
    have c2 := (hrow.cellAt (j * 4 + 2) (show j * 4 + 2 < cur.length * 4 by omega)).trans s2
    have c3 := (hrow.cellAt (j * 4 + 3) (show j * 4 + 3 < cur.length * 4 by omega)).trans s3
    have hlx : l[j]? = some r := by
     have h1 := congrArg (·[0]?) HDR.out
     simpa [hx] using h1.symm
    have HX := Lib.hid hx
    have HLX := Lib.hid hlx
    have HC := Lib.hid (HP.out.tch (w1 := wr) (HT.out.mono (fun k hk _ => by rw [hk]; rfl)) (wr.alloc (.cells #[.string (mkB r.name), .string (mkB r.file), .int .i64 (r.size : Int), .int .i64 (r.sum : Int)] 120 (0, 0))) r (List.mem_of_getElem? HLX.out) (Tch.alloc _ _ _))
    have HST := Lib.hid (fun (w3 : World) (hb3 : Below (wr.alloc (.cells #[.string (mkB r.name), .string (mkB r.file), .int .i64 (r.size : Int), .int .i64 (r.sum : Int)] 120 (0, 0))).heap.size (wr.alloc (.cells #[.string (mkB r.name), .string (mkB r.file), .int .i64 (r.size : Int), .int .i64 (r.sum : Int)] 120 (0, 0))) w3) => (show OwnRows w3 base (.slice (some ⟨b, 0, none⟩) cur.length c) cur ∧ w3.heap[wr.heap.size]? = some (.cells #[.string (mkB r.name), .string (mkB r.file), .int .i64 (r.size : Int), .int .i64 (r.sum : Int)] 120 (0, 0)) from ⟨own_bel (own_bel HW.out ((Below.refl _ _).alloc (Nat.le_refl _) _)) hb3, (hb3.block _ (by simp)).trans (alloc_new wr _)⟩))
    have HO := Lib.hid (And.intro o0 (And.intro o1 (And.intro o2 o3)))
    clear s0 s1 s2 s3 hx hlx o0 o1 o2 o3 ho hrow
    cases hq : p r with
    | true =>
     rw [hq] at HC
     go_wp2_with (first
      | (go_at_fn g; refine HC.out.mono ?_; rintro e w3 ⟨rfl, hb3⟩)
      | go_in)
     go_roundw
     case rel =>
      refine ⟨i, j + 1, cur, rfl, by push_cast; rfl, by omega, by omega, HCL.out, own_bel (own_bel HW.out ((Below.refl _ _).alloc (Nat.le_refl _) _)) hb3, (HT.out.andAlloc _).andBelow hb3, ?_, ?_⟩
      ·rw [HTK.out, filter_take_succ _ l j r HLX.out, hq, if_neg (by decide), List.append_nil]
      ·rw [← List.drop_drop, HDR.out, List.drop_drop]
     case measure =>
      show l.length - ((j : Int) + 1).toNat < l.length - (j : Int).toNat
      omega
    | false =>
     rw [hq] at HC
     go_wp2_with (first
      | (go_at_fn g; refine HC.out.mono ?_; rintro e w3 ⟨rfl, hb3⟩; obtain ⟨hw3, hbox⟩ := HST.out w3 hb3; have d0 := cell_at hbox 0; have d1 := cell_at hbox 1; have d2 := cell_at hbox 2; have d3 := cell_at hbox 3; obtain ⟨o0, o1, o2, o3⟩ := HO.out; have e0 := (hw3.cellAt (i * 4) (show i * 4 < cur.length * 4 by omega)).trans o0; have e1 := (hw3.cellAt (i * 4 + 1) (show i * 4 + 1 < cur.length * 4 by omega)).trans o1; have e2 := (hw3.cellAt (i * 4 + 2) (show i * 4 + 2 < cur.length * 4 by omega)).trans o2; have e3 := (hw3.cellAt (i * 4 + 3) (show i * 4 + 3 < cur.length * 4 by omega)).trans o3; have z0 := hw3.frozenAt (i * 4); have z1 := hw3.frozenAt (i * 4 + 1); have z2 := hw3.frozenAt (i * 4 + 2); have z3 := hw3.frozenAt (i * 4 + 3); have HW3 := Lib.hid hw3; have HB3 := Lib.hid hb3; clear hw3 hb3 hbox o0 o1 o2 o3)
      | go_in)
     go_roundw
     case rel =>
      refine ⟨i + 1, j + 1, cur.set i r, by push_cast; rfl, by push_cast; rfl, by omega, by omega, by rw [List.length_set]; exact HCL.out, own_row_set HW3.out hic r, ((HT.out.andAlloc _).andBelow HB3.out).trans (tch_cells b (rowC r) (i * 4) w3) (fun k hk => .inl hk), ?_, ?_⟩
      ·rw [filter_take_succ _ l j r HLX.out, hq, if_pos (by decide), List.set_eq_take_append_cons_drop, if_pos hic, List.take_append, List.take_of_length_le (by rw [List.length_take]; omega), List.length_take, Nat.min_eq_left (by omega), show i + 1 - i = 1 by omega, HTK.out]
       rfl
      ·rw [List.drop_set_of_lt (by omega), ← List.drop_drop, HDR.out, List.drop_drop]
     case measure =>
      show l.length - ((j : Int) + 1).toNat < l.length - (j : Int).toNat
      omega
   ·have hdec : ¬ ((j : Int) < (l.length : Int)) := by omega
    have hjl' : j = l.length := by omega
    subst hjl'
    rw [List.take_length] at HTK
    have hil : i ≤ cur.length := by omega
    obtain ⟨w4, hcl4, hrow4, ht4⟩ := clear_rows hrow hil
    rw [HCL.out] at hcl4
    have HW4 := Lib.hid hrow4
    have HT4 := Lib.hid ht4
    clear hrow4 ht4 hrow
    go_wp2
    go_ret
    have hli : ((cur.take i).length : Nat) = i := by rw [List.length_take]; omega
    refine ⟨_, rfl, ?_, (HT.out.trans HT4.out (fun k hk => .inl hk)).mono (fun k hk _ => by rw [hk]; rfl), rfl⟩
    rw [← HTK.out]
    exact HW4.out
end
def strsC (l : List L) : List Value := l.map fun x => Value.string (mkB x)
theorem strsC_at (l : List L) (i : Nat) (x : L) (h : l[i]? = some x) : (strsC l)[i]? = some (.string (mkB x)) := by unfold strsC; rw [List.getElem?_map, h]; rfl
abbrev OwnStrs (w : World) (base : Nat) (v : Value) (l : List L) : Prop := w.ownsRow base 9 1 v l.length (strsC l)
theorem cellAt1 {w : World} {base n cap b : Nat} {e : TypeId} {xs : List Value} (h : w.ownsRow base e 1 (.slice (some ⟨b, 0, none⟩) n cap) n xs) (i : Nat) (hi : i < n) : w.cell? ⟨b, i, none⟩ = xs[i]? := h.cellAt i (by omega)
theorem own_str_set {w : World} {base c b i : Nat} {l : List L} (h : OwnStrs w base (.slice (some ⟨b, 0, none⟩) l.length c) l) (hi : i < l.length) (x : L) :
  OwnStrs (w.setCell ⟨b, i, none⟩ (.string (mkB x))) base (.slice (some ⟨b, 0, none⟩) (l.set i x).length c) (l.set i x) := by
 obtain ⟨cs, h1, h2, h3, h4, h5, h6⟩ := own_blk_open h
 have hls : (l.set i x).length = l.length := List.length_set
 show World.ownsRow _ base _ 1 (.slice _ (l.set i x).length c) (l.set i x).length _
 rw [hls]
 refine own_blk_mk (cs := cs.set i (.string (mkB x))) (h1.set i _) (by rw [List.length_set]; exact h2) ?_ h4 h5 h6
 rw [Nat.mul_one] at h3 ⊢
 rw [List.take_set, h3]
 unfold strsC
 rw [List.map_set]
theorem own_str_take {w : World} {base c b i : Nat} {l : List L} (h : OwnStrs w base (.slice (some ⟨b, 0, none⟩) l.length c) l) (hi : i ≤ l.length) : OwnStrs w base (.slice (some ⟨b, 0, none⟩) i c) (l.take i) := by
 obtain ⟨cs, h1, h2, h3, h4, h5, h6⟩ := own_blk_open h
 have e1 : (l.take i).length = i := by rw [List.length_take]; omega
 show World.ownsRow _ base _ 1 _ (l.take i).length _
 rw [e1]
 refine own_blk_mk h1 h2 ?_ h4 (by omega) h6
 rw [Nat.mul_one] at h3 ⊢
 unfold strsC at h3 ⊢
 rw [List.map_take, ← h3, List.take_take, Nat.min_eq_left (by omega)]
theorem zeroCell1_len (n : Nat) : (Builtin.zeroCells (Value.string ByteArray.empty).cells n).toList.length = n := by
 simp [Builtin.zeroCells, Value.cells]
theorem zeroCell1_one (n : Nat) : ∀ v ∈ (Builtin.zeroCells (Value.string ByteArray.empty).cells n).toList, v.oneCell' = true := by
 intro v hv
 have e : (Value.string ByteArray.empty).cells = #[.string ByteArray.empty] := rfl
 rw [e] at hv
 simp only [Builtin.zeroCells, Array.toList_map, List.mem_map] at hv
 obtain ⟨j, _, rfl⟩ := hv
 have hj : j % 1 = 0 := by omega
 show ((#[Value.string ByteArray.empty] : Array Value)[j % 1]!).oneCell' = true
 rw [hj]
 rfl
theorem clear_strs {w : World} {base c b i : Nat} {l : List L} (h : OwnStrs w base (.slice (some ⟨b, 0, none⟩) l.length c) l) (hi : i ≤ l.length) :
  ∃ w', (∀ ty, (Builtin.clear_ #[41] ty #[.slice (some ⟨b, i, none⟩) (l.length - i) (c - i)]).run Tryz.prog w = .ok (.tuple #[]) w') ∧ OwnStrs w' base (.slice (some ⟨b, 0, none⟩) i c) (l.take i) ∧ Tch (fun k => k = b) w w' := by
 rcases Nat.eq_zero_or_pos (l.length - i) with h0 | h0
 ·refine ⟨w, fun ty => ?_, own_str_take h hi, Tch.refl _ _⟩
  rw [h0]
  simp [Builtin.clear_, run_underlying Tryz.underlying41]
 ·obtain ⟨cs, h1, h2, h3, h4, h5, h6⟩ := own_blk_open h
  have hz0 : ∀ w, (zeroValue 9).run Tryz.prog w = .ok (.string ByteArray.empty) w := fun w => by kernel_rfl
  obtain ⟨zs, hzs⟩ : ∃ zs, zs = (Builtin.zeroCells (Value.string ByteArray.empty).cells (l.length - i)).toList := ⟨_, rfl⟩
  have hz2 : zs.length = l.length - i := by rw [hzs, zeroCell1_len]
  have hz3 : ∀ v ∈ zs, v.oneCell' = true := by
   rw [hzs]
   exact zeroCell1_one _
  rw [Nat.mul_one] at h2 h3
  have hst := run_storeCells_cells (P := Tryz.prog) b i zs 0 w (fun j hj => by rw [Nat.add_zero, h1.cell]; rw [List.getElem?_eq_getElem (by omega)]; rfl) (fun j hj => h1.melt _) hz3
  rw [Nat.add_zero] at hst
  refine ⟨w.setCells b i zs, fun ty => ?_, ?_, tch_cells b zs i w⟩
  ·obtain ⟨m, hm⟩ : ∃ m, l.length - i = m + 1 := ⟨l.length - i - 1, by omega⟩
   rw [hzs] at hst ⊢
   rw [hm] at hst ⊢
   simp [Builtin.clear_, run_underlying Tryz.underlying41, hz0, hst]
  ·have e1 : (l.take i).length = i := by rw [List.length_take]; omega
   have h7 := h1.cells zs i (by omega)
   show World.ownsRow _ base _ 1 _ (l.take i).length _
   rw [e1]
   refine own_blk_mk h7 ?_ ?_ h4 (by omega) h6
   ·simp only [List.length_append, List.length_take, List.length_drop]
    omega
   ·rw [Nat.mul_one, List.append_assoc, List.take_append, List.take_of_length_le (by rw [List.length_take]; omega), List.length_take, Nat.min_eq_left (by omega), Nat.sub_self, List.take_zero, List.append_nil]
    unfold strsC at h3 ⊢
    rw [List.map_take, ← h3, List.take_take, Nat.min_eq_left (by omega)]
/-- A bound method of a text: it answers p, whatever has turned in the blocks F, and touches nothing. -/
def StrAsk (g : FuncId) (u : Value) (F : Nat → Prop) (p : L → Bool) (w : World) : Prop :=
  ∀ (W : World) (x : L), Tch F w W → Calls Tryz.prog g #[u, .string (mkB x)] W fun e w' => e = .returned (.bool (p x)) ∧ Below W.heap.size W w'
theorem StrAsk.tch {g : FuncId} {u : Value} {F : Nat → Prop} {p : L → Bool} {w w1 : World} (h : StrAsk g u F p w) (t : Tch F w w1) : StrAsk g u F p w1 := fun W r t1 => h W r (t.trans t1 (fun k hk => .inl hk))
theorem StrAsk.below {g : FuncId} {u : Value} {F : Nat → Prop} {p : L → Bool} {w w1 : World} (h : StrAsk g u F p w) (b : Below w.heap.size w w1) : StrAsk g u F p w1 := h.tch (.of_below b)
section
variable {w w' : World} {g : FuncId} {u : Value} {F : Nat → Prop} {p : L → Bool} {A : Option Addr} {c base : Nat} {l : List L}
set_option maxRecDepth 100000 in
set_option maxHeartbeats 4000000 in
theorem indexStrs (eg : ∀ args w, (callFunc g args).run Tryz.prog w = .ok (.enter g args) w) (hr : OwnStrs w 0 (.slice A l.length c) l) (hp : StrAsk g u F p w) :
  Calls Tryz.prog 133 #[.slice A l.length c, .func (.func g) #[u] #[]] w fun e w' => e = .returned (.int .i64 (idxI p l 0)) ∧ Below w.heap.size w w' := by
 have HR := Lib.hid hr
 have HP := Lib.hid hp
 have hlen : l.length ≤ 9223372036854775807 := row_len hr
 clear hr hp
 go_enter Tryz.func133, Tryz.ntmps133
 go_wp2
 go_loopw [5, 8] (fun _ v8 wr => ∃ (i : Nat), v8 = Value.int .i64 (i : Int) ∧ i ≤ l.length ∧ Below w.heap.size w wr ∧ (∀ j x, j < i → l[j]? = some x → p x = false))
  (fun _ v8 _ => l.length - (intOf v8).toNat)
 case atStart => exact ⟨0, rfl, Nat.zero_le _, Below.refl _ _, fun j x hj => absurd hj (Nat.not_lt_zero _)⟩
 case round =>
  obtain ⟨i, rfl, hil, hb, hno⟩ := hrel
  have HB := Lib.hid hb
  have HN := Lib.hid hno
  clear hb hno
  by_cases hlt : i < l.length
  ·have hdec : ((i : Int) < (l.length : Int)) := by omega
   have hrow := own_bel HR.out HB.out
   obtain ⟨b, rfl, _, _⟩ := row_blk hrow hlt
   obtain ⟨r, hx⟩ : ∃ r, l[i]? = some r := ⟨_, List.getElem?_eq_getElem hlt⟩
   have c0 := (cellAt1 hrow i hlt).trans (strsC_at l i r hx)
   have HX := Lib.hid hx
   have HC := Lib.hid (HP.out.below HB.out _ r (Tch.refl _ _))
   clear hrow hx
   have e0 := Lib.hid (idxI_drop p i l HN.out hil)
   have e1 : l.drop i = r :: l.drop (i + 1) := by
    obtain ⟨h1, h2⟩ := List.getElem?_eq_some_iff.1 HX.out
    rw [← h2]
    exact List.drop_eq_getElem_cons h1
   have E1 := Lib.hid e1
   clear e1
   cases hq : p r with
   | true =>
    rw [hq] at HC
    go_wp2_with (first
     | (go_at_fn g; refine HC.out.mono ?_; rintro e w2 ⟨rfl, hb2⟩)
     | go_in)
    go_ret
    refine ⟨?_, HB.out.trans (hb2.mono HB.out.size)⟩
    rw [e0.out, E1.out]
    unfold idxI
    rw [hq, if_pos rfl]
    rfl
   | false =>
    rw [hq] at HC
    go_wp2_with (first
     | (go_at_fn g; refine HC.out.mono ?_; rintro e w2 ⟨rfl, hb2⟩)
     | go_in)
    go_roundw
    case rel =>
     refine ⟨i + 1, by push_cast; rfl, by omega, HB.out.trans (hb2.mono HB.out.size), fun j x hj hjx => ?_⟩
     by_cases e : j = i
     ·subst e
      rw [HX.out] at hjx
      obtain rfl := Option.some.inj hjx
      exact hq
     ·exact HN.out j x (by omega) hjx
    case measure =>
     show l.length - ((i : Int) + 1).toNat < l.length - (i : Int).toNat
     omega
  ·have hdec : ¬ ((i : Int) < (l.length : Int)) := by omega
   have hin : i = l.length := by omega
   subst hin
   have e0 := Lib.hid (idxI_drop p l.length l HN.out hil)
   go_wp2
   go_ret
   refine ⟨?_, HB.out⟩
   rw [e0.out, List.drop_length]
   rfl
set_option maxRecDepth 100000 in
set_option maxHeartbeats 4000000 in
theorem deleteStrs (eg : ∀ args w, (callFunc g args).run Tryz.prog w = .ok (.enter g args) w) (hr : OwnStrs w base (.slice A l.length c) l) (hp : StrAsk g u (fun k => (Value.slice A l.length c).ownBlock = some k) p w) :
  Calls Tryz.prog 95 #[.slice A l.length c, .func (.func g) #[u] #[]] w fun e w' => ∃ v', e = .returned v' ∧ OwnStrs w' base v' (l.filter fun r => !p r) ∧ Tch (fun k => (Value.slice A l.length c).ownBlock = some k) w w' ∧ (v'.ownBlock = (Value.slice A l.length c).ownBlock) := by
 have HI := Lib.hid (indexStrs eg (own_weaken hr (Nat.zero_le _)) hp)
 have HR := Lib.hid hr
 have HP := Lib.hid hp
 have hlen : c ≤ 9223372036854775807 := (row_room hr).2
 have hlc := (row_room hr).1
 clear hr hp
 by_cases hall : ∀ x ∈ l, p x = false
 ·have hidx : idxI p l 0 = -1 := idxI_none p l 0 hall
  have hfl : (l.filter fun r => !p r) = l := List.filter_eq_self.2 (fun x hx => by rw [hall x hx]; rfl)
  have HF := Lib.hid hfl
  clear hfl
  rw [hidx] at HI
  go_enter Tryz.func95, Tryz.ntmps95
  go_wp2_with (first
   | (go_at_call 133; refine HI.out.mono ?_; rintro e w2 ⟨rfl, hb2⟩; have B2 := Lib.hid hb2; clear hb2)
   | go_in)
  go_ret
  refine ⟨_, rfl, ?_, .of_below B2.out, rfl⟩
  rw [HF.out]
  exact own_bel HR.out B2.out
 ·obtain ⟨i0, hi0, hidx, hfirst, hhit⟩ := idxI_some p l 0 hall
  rw [Nat.zero_add] at hidx
  rw [hidx] at HI
  have HFI := Lib.hid hfirst
  have HHI := Lib.hid hhit
  obtain ⟨b, rfl, hb, hbl⟩ := row_blk HR.out hi0
  have hn1 : ((i0 : Int) == -1) = false := beq_eq_false_iff_ne.2 (by omega)
  clear hfirst hhit hidx hall
  go_enter Tryz.func95, Tryz.ntmps95
  go_wp2_with (first
   | (go_at_call 133; refine HI.out.mono ?_; rintro e w2 ⟨rfl, hb2⟩; have B2 := Lib.hid hb2; clear hb2)
   | go_in)
  go_loopw [5, 6, 7] (fun v5 v6 _ wr => ∃ (i j : Nat) (cur : List L), v5 = Value.int .i64 (i : Int) ∧ v6 = Value.int .i64 (j : Int) ∧ i < j ∧ j ≤ l.length ∧ cur.length = l.length ∧ OwnStrs wr base (.slice (some ⟨b, 0, none⟩) cur.length c) cur ∧ Tch (fun k => k = b) w wr ∧ cur.take i = (l.take j).filter (fun r => !p r) ∧ cur.drop j = l.drop j)
   (fun _ v6 _ _ => l.length - (intOf v6).toNat)
  case atStart =>
   refine ⟨i0, i0 + 1, l, rfl, by push_cast; rfl, by omega, by omega, rfl, own_bel HR.out B2.out, .of_below B2.out, ?_, rfl⟩
   obtain ⟨x, hx⟩ : ∃ x, l[i0]? = some x := ⟨_, List.getElem?_eq_getElem hi0⟩
   rw [filter_take_succ _ l i0 x hx, HHI.out x hx, if_neg (by decide), List.append_nil]
   refine (List.filter_eq_self.2 (fun y hy => ?_)).symm
   obtain ⟨j, hj, hjy⟩ := List.mem_take_iff_getElem.1 hy
   rw [HFI.out j y (by omega) (by rw [← hjy]; exact List.getElem?_eq_getElem (by omega))]
   rfl
  case round =>
   obtain ⟨i, j, cur, rfl, rfl, hij, hjl, hcl, hrow, ht, htake, hdrop⟩ := hrel
   have HT := Lib.hid ht
   have HTK := Lib.hid htake
   have HDR := Lib.hid hdrop
   have HCL := Lib.hid hcl
   clear ht htake hdrop
   by_cases hlt : j < l.length
   ·have hdec : ((j : Int) < (l.length : Int)) := by omega
    have hjc : j < cur.length := by omega
    have hic : i < cur.length := by omega
    obtain ⟨r, hx⟩ : ∃ r, cur[j]? = some r := ⟨_, List.getElem?_eq_getElem hjc⟩
    obtain ⟨o, ho⟩ : ∃ o, cur[i]? = some o := ⟨_, List.getElem?_eq_getElem hic⟩
    have HW := Lib.hid hrow
    have c0 := (cellAt1 hrow j hjc).trans (strsC_at cur j r hx)
    have hlx : l[j]? = some r := by
     have h1 := congrArg (·[0]?) HDR.out
     simpa [hx] using h1.symm
    have HX := Lib.hid hx
    have HLX := Lib.hid hlx
    have HC := Lib.hid (HP.out.tch (w1 := wr) (HT.out.mono (fun k hk _ => by rw [hk]; rfl)) wr r (Tch.refl _ _))
    have HO := Lib.hid (strsC_at cur i o ho)
    clear hx hlx ho hrow
    cases hq : p r with
    | true =>
     rw [hq] at HC
     go_wp2_with (first
      | (go_at_fn g; refine HC.out.mono ?_; rintro e w3 ⟨rfl, hb3⟩)
      | go_in)
     go_roundw
     case rel =>
      refine ⟨i, j + 1, cur, rfl, by push_cast; rfl, by omega, by omega, HCL.out, own_bel HW.out hb3, HT.out.andBelow hb3, ?_, ?_⟩
      ·rw [HTK.out, filter_take_succ _ l j r HLX.out, hq, if_neg (by decide), List.append_nil]
      ·rw [← List.drop_drop, HDR.out, List.drop_drop]
     case measure =>
      show l.length - ((j : Int) + 1).toNat < l.length - (j : Int).toNat
      omega
    | false =>
     rw [hq] at HC
     go_wp2_with (first
      | (go_at_fn g; refine HC.out.mono ?_; rintro e w3 ⟨rfl, hb3⟩; have hw3 := own_bel HW.out hb3; have e0 := (cellAt1 hw3 i hic).trans HO.out; have z0 := hw3.frozenAt i; have HW3 := Lib.hid hw3; have HB3 := Lib.hid hb3; clear hw3 hb3)
      | go_in)
     go_roundw
     case rel =>
      refine ⟨i + 1, j + 1, cur.set i r, by push_cast; rfl, by push_cast; rfl, by omega, by omega, by rw [List.length_set]; exact HCL.out, own_str_set HW3.out hic r, (HT.out.andBelow HB3.out).andSet _ (.inl rfl), ?_, ?_⟩
      ·rw [filter_take_succ _ l j r HLX.out, hq, if_pos (by decide), List.set_eq_take_append_cons_drop, if_pos hic, List.take_append, List.take_of_length_le (by rw [List.length_take]; omega), List.length_take, Nat.min_eq_left (by omega), show i + 1 - i = 1 by omega, HTK.out]
       rfl
      ·rw [List.drop_set_of_lt (by omega), ← List.drop_drop, HDR.out, List.drop_drop]
     case measure =>
      show l.length - ((j : Int) + 1).toNat < l.length - (j : Int).toNat
      omega
   ·have hdec : ¬ ((j : Int) < (l.length : Int)) := by omega
    have hjl' : j = l.length := by omega
    subst hjl'
    rw [List.take_length] at HTK
    have hil : i ≤ cur.length := by omega
    obtain ⟨w4, hcl4, hrow4, ht4⟩ := clear_strs hrow hil
    rw [HCL.out] at hcl4
    have HW4 := Lib.hid hrow4
    have HT4 := Lib.hid ht4
    clear hrow4 ht4 hrow
    go_wp2
    go_ret
    refine ⟨_, rfl, ?_, (HT.out.trans HT4.out (fun k hk => .inl hk)).mono (fun k hk _ => by rw [hk]; rfl), rfl⟩
    have hli : ((cur.take i).length : Nat) = i := by rw [List.length_take]; omega
    rw [← HTK.out]
    show World.ownsRow _ _ _ 1 _ (cur.take i).length _
    rw [hli]
    have := HW4.out
    unfold OwnStrs at this
    rw [hli] at this
    exact this
end
end Go.Proofs.YtfpbpakgajddnaaGreatDoor.Pl
/- VsE -/
namespace Go.Proofs.YtfpbpakgajddnaaGreatDoor.Pl
open Go Go.RowKit Go.Maps Go.Proofs.YtfpbpakgajddnaaGreatDoorW.PrintWords
set_option linter.unusedVariables false
set_option linter.unusedSimpArgs false
attribute [local go_sem] Go.Proofs.YtfpbpakgajddnaaGreatDoor.B.str_gtr
def RisingR (l : List RowM) : Prop := l.Pairwise fun a b => bytesBefore a.name b.name = true
/-- How many rows stand ahead of a name. -/
def lowB (x : L) (l : List RowM) : Nat := (l.takeWhile fun r => bytesBefore r.name x).length
def hitB (x : L) (l : List RowM) : Bool := match l[lowB x l]? with
  | some r => r.name == x
  | none => false
theorem lowB_le (x : L) (l : List RowM) : lowB x l ≤ l.length := (List.takeWhile_sublist _).length_le
theorem takeWhile_at {α : Type} (q : α → Bool) : ∀ (l : List α) (i : Nat) , i ≤ l.length → (∀ j r, j < i → l[j]? = some r → q r = true) → (∀ r, l[i]? = some r → q r = false) → (l.takeWhile q).length = i
 | [], i, hi, _, _ => by simp at hi; simp [hi]
 | y :: l, 0, _, _, h => by
  have : q y = false := h y rfl
  simp [this]
 | y :: l, i + 1, hi, h1, h2 => by
  have hy : q y = true := h1 0 y (by omega) rfl
  rw [List.takeWhile_cons, if_pos hy, List.length_cons, takeWhile_at q l i (by simpa using hi) (fun j r hj hr => h1 (j + 1) r (by omega) (by simpa using hr)) (fun r hr => h2 r (by simpa using hr))]
theorem rising_lt {l : List RowM} (h : RisingR l) {i j : Nat} {a b : RowM} (hij : i < j) (ha : l[i]? = some a) (hb : l[j]? = some b) : bytesBefore a.name b.name = true := by
 obtain ⟨h1, rfl⟩ := List.getElem?_eq_some_iff.1 ha
 obtain ⟨h2, rfl⟩ := List.getElem?_eq_some_iff.1 hb
 exact List.pairwise_iff_getElem.1 h i j h1 h2 hij
theorem less_bb (a b : L) : Op.bytesLess (mkB a).toList (mkB b).toList = bytesBefore a b := by
 rw [ByteArray.toList_eq, ByteArray.toList_eq, mkB_data, mkB_data, less_before]
/-- How a row's name stands to a name. -/
def cmpI (a x : L) : Int := if bytesBefore a x then -1 else if bytesBefore x a then 1 else 0
section
variable {w w' : World} {A : Option Addr} {c : Nat} {l : List RowM}
theorem at1_calls (r : RowM) (x : L) (w : World) :
  Calls Tryz.prog 115 #[.agg #[.string (mkB r.name), .string (mkB r.file), .int .i64 (r.size : Int), .int .i64 (r.sum : Int)], .string (mkB x)] w fun e w' => e = .returned (.int .i64 (cmpI r.name x)) ∧ Below w.heap.size w w' := by
 have h1 := less_bb r.name x
 have h2 := less_bb x r.name
 unfold cmpI
 cases hq : bytesBefore r.name x with
 | true =>
  rw [hq] at h1
  go_enter Tryz.func115, Tryz.ntmps115
  go_wp2
  go_ret
  exact ⟨rfl, (Below.refl _ _).alloc (Nat.le_refl _) _⟩
 | false =>
  rw [hq] at h1
  cases hq2 : bytesBefore x r.name with
  | true =>
   rw [hq2] at h2
   go_enter Tryz.func115, Tryz.ntmps115
   go_wp2
   go_ret
   exact ⟨rfl, (Below.refl _ _).alloc (Nat.le_refl _) _⟩
  | false =>
   rw [hq2] at h2
   go_enter Tryz.func115, Tryz.ntmps115
   go_wp2
   go_ret
   exact ⟨rfl, (Below.refl _ _).alloc (Nat.le_refl _) _⟩
set_option maxRecDepth 100000 in
set_option maxHeartbeats 4000000 in
theorem searchRows (x : L) (hr : OwnRows w 0 (.slice A l.length c) l) (hs : RisingR l) (hlen : l.length ≤ 4611686018427387904) :
  Calls Tryz.prog 114 #[.slice A l.length c, .string (mkB x), .func (.func 115) #[] #[]] w fun e w' => e = .returned (.tuple #[.int .i64 (lowB x l : Nat), .bool (hitB x l)]) ∧ Below w.heap.size w w' := by
 have HR := Lib.hid hr
 have HS := Lib.hid hs
 clear hr hs
 go_enter Tryz.func114, Tryz.ntmps114
 go_wp2
 go_loopw [9, 10, 11] (fun v9 v10 _ wr => ∃ (i j : Nat), v9 = Value.int .i64 (i : Int) ∧ v10 = Value.int .i64 (j : Int) ∧ i ≤ j ∧ j ≤ l.length ∧ Below w.heap.size w wr ∧ (∀ k r, k < i → l[k]? = some r → bytesBefore r.name x = true) ∧ (∀ k r, j ≤ k → l[k]? = some r → bytesBefore r.name x = false))
  (fun v9 v10 _ _ => (intOf v10).toNat - (intOf v9).toNat)
 case atStart => exact ⟨0, l.length, rfl, rfl, Nat.zero_le _, Nat.le_refl _, Below.refl _ _, fun k r hk => absurd hk (Nat.not_lt_zero _), fun k r hk hkr => by rw [List.getElem?_eq_none hk] at hkr; cases hkr⟩
 case round =>
  obtain ⟨i, j, rfl, rfl, hij, hjl, hb, hlo, hhi⟩ := hrel
  have HB := Lib.hid hb
  have HLO := Lib.hid hlo
  have HHI := Lib.hid hhi
  clear hb hlo hhi
  by_cases hlt : i < j
  ·have hdec : ((i : Int) < (j : Int)) := by omega
   obtain ⟨h, hh⟩ : ∃ h : Nat, h = (i + j) / 2 := ⟨_, rfl⟩
   have eh : ((i : Int) + (j : Int)) / 2 = (h : Int) := by omega
   have hhl : h < l.length := by omega
   have hij2 : i ≤ h ∧ h < j := by omega
   clear hh
   have hrow := own_bel HR.out HB.out
   obtain ⟨b, rfl, _, _⟩ := row_blk hrow hhl
   obtain ⟨r, hx⟩ : ∃ r, l[h]? = some r := ⟨_, List.getElem?_eq_getElem hhl⟩
   obtain ⟨s0, s1, s2, s3⟩ := rowsC_at l h r hx
   have c0 := (hrow.cellAt (h * 4) (show h * 4 < l.length * 4 by omega)).trans s0
   have c1 := (hrow.cellAt (h * 4 + 1) (show h * 4 + 1 < l.length * 4 by omega)).trans s1
   have c2 := (hrow.cellAt (h * 4 + 2) (show h * 4 + 2 < l.length * 4 by omega)).trans s2
   have c3 := (hrow.cellAt (h * 4 + 3) (show h * 4 + 3 < l.length * 4 by omega)).trans s3
   have HX := Lib.hid hx
   have HC := Lib.hid (at1_calls r x wr)
   clear s0 s1 s2 s3 hrow hx
   cases hq : bytesBefore r.name x with
   | true =>
    have hz : cmpI r.name x = -1 := by unfold cmpI; rw [hq, if_pos rfl]
    rw [hz] at HC
    go_wp2_with (first
     | (go_at_call 115; refine HC.out.mono ?_; rintro e w2 ⟨rfl, hb2⟩)
     | go_in)
    go_roundw
    case rel =>
     refine ⟨h + 1, j, by push_cast; rfl, rfl, by omega, hjl, HB.out.trans (hb2.mono HB.out.size), fun k q hk hkq => ?_, HHI.out⟩
     by_cases e : k = h
     ·subst e
      rw [HX.out] at hkq
      obtain rfl := Option.some.inj hkq
      exact hq
     ·exact WideShapes.bytes_trans _ _ _ (rising_lt HS.out (show k < h by omega) hkq HX.out) hq
    case measure =>
     show (j : Int).toNat - ((h : Int) + 1).toNat < (j : Int).toNat - (i : Int).toNat
     omega
   | false =>
    obtain ⟨z, hz, hz0⟩ : ∃ z : Int, cmpI r.name x = z ∧ ¬ z < 0 := by
     refine ⟨_, rfl, ?_⟩
     unfold cmpI
     rw [hq, if_neg (by decide)]
     split <;> decide
    rw [hz] at HC
    go_wp2_with (first
     | (go_at_call 115; refine HC.out.mono ?_; rintro e w2 ⟨rfl, hb2⟩)
     | go_in)
    go_roundw
    case rel =>
     refine ⟨i, h, rfl, rfl, by omega, by omega, HB.out.trans (hb2.mono HB.out.size), HLO.out, fun k q hk hkq => ?_⟩
     by_cases e : k = h
     ·subst e
      rw [HX.out] at hkq
      obtain rfl := Option.some.inj hkq
      exact hq
     ·cases hkx : bytesBefore q.name x with
      | false => rfl
      | true =>
       have h2 := WideShapes.bytes_trans _ _ _ (rising_lt HS.out (show h < k by omega) HX.out hkq) hkx
       rw [hq] at h2
       cases h2
    case measure =>
     show (h : Int).toNat - (i : Int).toNat < (j : Int).toNat - (i : Int).toNat
     omega
  ·have hdec : ¬ ((i : Int) < (j : Int)) := by omega
   have hije : i = j := by omega
   subst hije
   have hk : lowB x l = i := takeWhile_at _ l i hjl HLO.out (fun r hr => HHI.out i r (Nat.le_refl _) hr)
   have HK := Lib.hid hk
   clear hk
   by_cases hlt2 : i < l.length
   ·have hdec2 : ((i : Int) < (l.length : Int)) := by omega
    have hrow := own_bel HR.out HB.out
    obtain ⟨b, rfl, _, _⟩ := row_blk hrow hlt2
    obtain ⟨r, hx⟩ : ∃ r, l[i]? = some r := ⟨_, List.getElem?_eq_getElem hlt2⟩
    obtain ⟨s0, s1, s2, s3⟩ := rowsC_at l i r hx
    have c0 := (hrow.cellAt (i * 4) (show i * 4 < l.length * 4 by omega)).trans s0
    have c1 := (hrow.cellAt (i * 4 + 1) (show i * 4 + 1 < l.length * 4 by omega)).trans s1
    have c2 := (hrow.cellAt (i * 4 + 2) (show i * 4 + 2 < l.length * 4 by omega)).trans s2
    have c3 := (hrow.cellAt (i * 4 + 3) (show i * 4 + 3 < l.length * 4 by omega)).trans s3
    have hge := HHI.out i r (Nat.le_refl _) hx
    have hhit : hitB x l = (cmpI r.name x == 0) := by
     unfold hitB cmpI
     rw [HK.out, hx]
     simp only
     rw [hge, if_neg (by decide)]
     by_cases e : r.name = x
     ·rw [e, WideAt.bytes_irrefl]
      simp
     ·rcases WideAt.bytes_total r.name x e with h1 | h1
      ·rw [hge] at h1
       cases h1
      ·rw [h1]
       simp [e]
    have HH := Lib.hid hhit
    have HC := Lib.hid (at1_calls r x wr)
    clear s0 s1 s2 s3 hrow hx hhit hge
    generalize cmpI r.name x = z at HC HH
    go_wp2_with (first
     | (go_at_call 115; refine HC.out.mono ?_; rintro e w2 ⟨rfl, hb2⟩)
     | go_in)
    go_ret2
    refine ⟨?_, HB.out.trans (hb2.mono HB.out.size)⟩
    rw [HK.out, HH.out]
    rfl
   ·have hdec2 : ¬ ((i : Int) < (l.length : Int)) := by omega
    have hhit : hitB x l = false := by
     unfold hitB
     rw [HK.out, List.getElem?_eq_none (by omega)]
    have HH := Lib.hid hhit
    clear hhit
    go_wp2
    go_ret2
    refine ⟨?_, HB.out⟩
    rw [HK.out, HH.out]
    rfl
theorem at_calls (x : L) (hr : OwnRows w 0 (.slice A l.length c) l) (hs : RisingR l) (hl : l.length ≤ 4611686018427387904) :
  Calls Tryz.prog 70 #[.slice A l.length c, .string (mkB x)] w fun e w' => e = .returned (.tuple #[.int .i64 (lowB x l : Nat), .bool (hitB x l)]) ∧ Below w.heap.size w w' := by
 have HC := Lib.hid (searchRows x hr hs hl)
 clear hr hs
 go_enter Tryz.func70, Tryz.ntmps70
 go_wp2_with (first
  | (go_at_call 114; refine HC.out.mono ?_; rintro e w2 ⟨rfl, hb2⟩)
  | go_in)
 go_ret2
 exact ⟨rfl, hb2⟩
end
end Go.Proofs.YtfpbpakgajddnaaGreatDoor.Pl
/- VsF -/
namespace Go.Proofs.YtfpbpakgajddnaaGreatDoor.Pl
open Go Go.RowKit Go.Maps Go.Proofs.YtfpbpakgajddnaaGreatDoorW.PrintWords
set_option linter.unusedVariables false
set_option linter.unusedSimpArgs false
theorem row_info : (Tryz.prog.info? 120).map (fun i => (i.zero, i.size, i.bytes)) = some (some (.agg #[.string ByteArray.empty, .string ByteArray.empty, .int .i64 0, .int .i64 0]), 4, 48) := by kernel_rfl
theorem own_empty (w : World) : (w.alloc (.cells #[] 120 (0, 0))).ownsRow w.heap.size 120 4 (.slice (some ⟨w.heap.size, 0, none⟩) 0 0) 0 [] :=
 own_blk_mk (cs := []) (alloc_new w _) rfl rfl (Nat.le_refl _) (Nat.le_refl _) (Nat.zero_le _)
section
variable {w w' : World} {A : Option Addr} {c : Nat} {l : List RowM}
set_option maxRecDepth 100000 in
set_option maxHeartbeats 4000000 in
theorem cloneRows (hr : OwnRows w 0 (.slice A l.length c) l) (hl : l.length ≤ 1000000000) :
  Calls Tryz.prog 99 #[.slice A l.length c] w fun e w' => ∃ v', e = .returned v' ∧ OwnRows w' w.heap.size v' l ∧ Below w.heap.size w w' := by
 obtain ⟨i0, hi, hz⟩ := Option.map_eq_some_iff.1 row_info
 simp only [Prod.mk.injEq] at hz
 obtain ⟨hz0, hz1, hz2⟩ := hz
 cases A with
 | none =>
  have h0 : l = [] := by
   rcases Nat.eq_zero_or_pos l.length with h | h
   ·exact List.eq_nil_of_length_eq_zero h
   ·obtain ⟨g, e, _⟩ := row_blk hr h
    cases e
  subst h0
  clear hr
  have hnil : ∀ (n : Nat) w, (binOp .eql 100 (.slice none n c) (.slice none 0 0)).run Tryz.prog w = .ok (.bool true) w := fun n w => Lib.run_eql_slice_nil w _ _ none n c 0 0 Tryz.underlying100
  go_enter Tryz.func99, Tryz.ntmps99
  go_wp2
  go_ret
  exact ⟨_, rfl, World.ownsRow_nil _ _ _ _, Below.refl _ _⟩
 | some ad =>
  obtain ⟨b, rfl, hbl⟩ : ∃ b, ad = ⟨b, 0, none⟩ ∧ b < w.heap.size := by
   rcases hr.2 with ⟨h1, h2⟩ | ⟨g, cap, cur, h1, hb, hg, _⟩
   ·cases h1
   ·injection h1 with e1
    exact ⟨g, Option.some.inj e1, blk_lt hg⟩
  have HR := Lib.hid hr
  have hlc := (row_room hr).1
  clear hr
  have hnil : ∀ (n : Nat) w, (binOp .eql 100 (.slice (some ⟨b, 0, none⟩) n c) (.slice none 0 0)).run Tryz.prog w = .ok (.bool false) w := fun n w => Lib.run_eql_slice_nil w _ _ (some ⟨b, 0, none⟩) n c 0 0 Tryz.underlying100
  go_enter Tryz.func99, Tryz.ntmps99
  go_wp2_with (first
   | (at_builtin; refine wpList_append_own_at _ rfl _ _ 100 rfl w.heap.size 120 i0 _ 4 48 Tryz.underlying100 hi hz0 hz1 hz2 rfl (by decide) (.slice (some ⟨w.heap.size, 0, none⟩) 0 0) 0 [] rfl (own_empty w) ⟨b, 0, none⟩ l.length c (rowsC l) rfl (rowsC_len l) (fun j u hj => (HR.out.alloc _).cells rfl j u hj) (rowsC_one l) (by unfold maxLen; omega) (by omega) (by simp) ?_; intro v2 w2 hown2 hgr2 hnil2 hloc2; obtain ⟨A2, cc2, rfl⟩ := row_slice hown2; have HO2 := Lib.hid hown2; have HG2 := Lib.hid hgr2; clear hown2 hgr2 hnil2 hloc2)
   | go_in)
  go_ret
  refine ⟨_, rfl, ?_, ((Below.refl _ w).alloc (Nat.le_refl _) _).grown HG2.out (Nat.le_of_lt (by simp)) (fun k hk => Nat.le_of_eq (Option.some.inj hk))⟩
  have := HO2.out
  rw [List.nil_append, Nat.zero_add] at this
  exact this
theorem idxI_beq (x : L) : ∀ (l : List L) (i : Nat), decide (0 ≤ idxI (fun y => y == x) l i) = l.contains x := by
 intro l i
 rw [idxI_ge]
 induction l with
 | nil => rfl
 | cons y r ih =>
  rw [List.any_cons, List.contains_cons, ih, Bool.beq_comm]
set_option maxRecDepth 100000 in
set_option maxHeartbeats 4000000 in
theorem indexStr {l : List L} (x : L) (hlen : l.length ≤ 9223372036854775807) (hr : ∀ W, Below w.heap.size w W → ∀ i y, l[i]? = some y → ∃ ad, A = some ad ∧ W.cell? (ad.add i) = some (.string (mkB y))) :
  Calls Tryz.prog 135 #[.slice A l.length c, .string (mkB x)] w fun e w' => e = .returned (.int .i64 (idxI (fun y => y == x) l 0)) ∧ Below w.heap.size w w' := by
 have HR := Lib.hid hr
 clear hr
 go_enter Tryz.func135, Tryz.ntmps135
 go_wp2
 go_loopw [5, 8] (fun _ v8 wr => ∃ (i : Nat), v8 = Value.int .i64 (i : Int) ∧ i ≤ l.length ∧ Below w.heap.size w wr ∧ (∀ j y, j < i → l[j]? = some y → (y == x) = false))
  (fun _ v8 _ => l.length - (intOf v8).toNat)
 case atStart => exact ⟨0, rfl, Nat.zero_le _, Below.refl _ _, fun j x hj => absurd hj (Nat.not_lt_zero _)⟩
 case round =>
  obtain ⟨i, rfl, hil, hb, hno⟩ := hrel
  have HB := Lib.hid hb
  have HN := Lib.hid hno
  clear hb hno
  by_cases hlt : i < l.length
  ·have hdec : ((i : Int) < (l.length : Int)) := by omega
   obtain ⟨y, hx⟩ : ∃ y, l[i]? = some y := ⟨_, List.getElem?_eq_getElem hlt⟩
   obtain ⟨ad, rfl, c0⟩ := HR.out wr HB.out i y hx
   have HX := Lib.hid hx
   clear hx
   have e0 := Lib.hid (idxI_drop (fun y => y == x) i l HN.out hil)
   have e1 : l.drop i = y :: l.drop (i + 1) := by
    obtain ⟨h1, h2⟩ := List.getElem?_eq_some_iff.1 HX.out
    rw [← h2]
    exact List.drop_eq_getElem_cons h1
   have E1 := Lib.hid e1
   clear e1
   by_cases hq : y = x
   ·subst hq
    go_wp2
    go_ret
    refine ⟨?_, HB.out⟩
    rw [e0.out, E1.out]
    unfold idxI
    rw [if_pos (by simp)]
    rfl
   ·have hb0 : ((mkB x).toList == (mkB y).toList) = false := by
     rw [ByteArray.toList_eq, ByteArray.toList_eq, mkB_data, mkB_data]
     simpa using fun e : x = y => hq e.symm
    go_wp2
    go_roundw
    case rel =>
     refine ⟨i + 1, by push_cast; rfl, by omega, HB.out, fun j z hj hjz => ?_⟩
     by_cases e : j = i
     ·subst e
      rw [HX.out] at hjz
      obtain rfl := Option.some.inj hjz
      simpa using hq
     ·exact HN.out j z (by omega) hjz
    case measure =>
     show l.length - ((i : Int) + 1).toNat < l.length - (i : Int).toNat
     omega
  ·have hdec : ¬ ((i : Int) < (l.length : Int)) := by omega
   have hin : i = l.length := by omega
   subst hin
   have e0 := Lib.hid (idxI_drop (fun y => y == x) l.length l HN.out hil)
   go_wp2
   go_ret
   refine ⟨?_, HB.out⟩
   rw [e0.out, List.drop_length]
   rfl
theorem containsStr {l : List L} (x : L) (hlen : l.length ≤ 9223372036854775807) (hr : ∀ W, Below w.heap.size w W → ∀ i y, l[i]? = some y → ∃ ad, A = some ad ∧ W.cell? (ad.add i) = some (.string (mkB y))) :
  Calls Tryz.prog 101 #[.slice A l.length c, .string (mkB x)] w fun e w' => e = .returned (.bool (l.contains x)) ∧ Below w.heap.size w w' := by
 have HI := Lib.hid (indexStr (c := c) x hlen hr)
 have hg := idxI_beq x l 0
 generalize l.contains x = q at *
 have HG := Lib.hid hg
 clear hr hg
 go_enter Tryz.func101, Tryz.ntmps101
 go_wp2_with (first
  | (go_at_call 135; refine HI.out.mono ?_; rintro e w2 ⟨rfl, hb2⟩)
  | go_in)
 go_ret
 refine ⟨?_, hb2⟩
 rw [← HG.out]
 rfl
end
def insL (l : List RowM) (i : Nat) (r : RowM) : List RowM := l.take i ++ r :: l.drop i
theorem insL_len (l : List RowM) (i : Nat) (r : RowM) : (insL l i r).length = l.length + 1 := by
 unfold insL
 rw [List.length_append, List.length_cons, List.length_take, List.length_drop]
 omega
theorem insL_cells (l : List RowM) (i : Nat) (r : RowM) : rowsC (insL l i r) = rowsC (l.take i) ++ rowC r ++ rowsC (l.drop i) := by
 unfold insL rowsC
 rw [List.flatMap_append, List.flatMap_cons, List.append_assoc]
theorem rowC_one (r : RowM) : ∀ v ∈ rowC r, v.oneCell' = true := by
 intro v hv
 simp only [rowC, List.mem_cons, List.not_mem_nil, or_false] at hv
 rcases hv with rfl | rfl | rfl | rfl <;> rfl
/-- Rows are copied: all is read before anything is written. -/
theorem run_copy4 (w : World) (ty : TypeId) (b o dLen dCap : Nat) (a : Addr) (sLen sCap k : Nat) (cs : List Value) (hk : k = Nat.min sLen dLen) (hn : cs.length = k * 4)
  (hsrc : ∀ j v, cs[j]? = some v → w.cell? (a.add j) = some v) (hc : ∀ j, j < cs.length → (w.cell? ⟨b, o + j, none⟩).isSome = true) (hf : ∀ j, j < cs.length → w.frozen? ⟨b, o + j, none⟩ = false) (h1 : ∀ v ∈ cs, v.oneCell' = true) :
  (Builtin.copy_ #[100, 100] ty #[.slice (some ⟨b, o, none⟩) dLen dCap, .slice (some a) sLen sCap]).run Tryz.prog w = .ok (goInt k) (w.setCells b o cs) := by
 have hl := run_loadCells_list (P := Tryz.prog) w a cs hsrc
 have hst := run_storeCells_cells (P := Tryz.prog) b o cs 0 w (by simpa using hc) (by simpa using hf) h1
 obtain ⟨i0, hi, hz⟩ := Option.map_eq_some_iff.1 row_info
 simp only [Prod.mk.injEq] at hz
 obtain ⟨hz0, hz1, hz2⟩ := hz
 rw [hn] at hl
 simp [Builtin.copy_, run_underlying Tryz.underlying100, Builtin.lenOf, Builtin.firstCells, sizeOf, typeInfo, hi, hz1, ← hk, hl, hst]
section
variable {w w' : World} {A : Option Addr} {c base vb i : Nat} {l : List RowM} {r : RowM}
set_option maxRecDepth 100000 in
set_option maxHeartbeats 4000000 in
theorem insert_end (hr : OwnRows w base (.slice A l.length c) l) (hv : w.heap[vb]? = some (.cells (rowC r).toArray 120 (0, 0))) (hl : l.length ≤ 1000000000) (hB : base ≤ w.heap.size) {ob : Option Nat} (hob : (Value.slice A l.length c).ownBlock = ob) :
  Calls Tryz.prog 102 #[.slice A l.length c, .int .i64 (l.length : Nat), .slice (some ⟨vb, 0, none⟩) 1 1] w fun e w' => ∃ v', e = .returned v' ∧ OwnRows w' base v' (insL l l.length r) ∧ w.grownBy w' ob ∧ (v'.ownBlock = ob ∨ v'.ownBlock = some w.heap.size) := by
 obtain ⟨i0, hi, hz⟩ := Option.map_eq_some_iff.1 row_info
 simp only [Prod.mk.injEq] at hz
 obtain ⟨hz0, hz1, hz2⟩ := hz
 have HR := Lib.hid hr
 have HV := Lib.hid hv
 have hlc := row_room hr
 have hcm : c ≤ 9223372036854775807 := hlc.2
 have hlc1 := hlc.1
 have HOB := Lib.hid hob
 clear hr hv hlc hob
 go_enter Tryz.func102, Tryz.ntmps102
 go_wp2_with (first
  | (at_builtin; refine wpList_append_own_at _ rfl _ _ 100 rfl base 120 i0 _ 4 48 Tryz.underlying100 hi hz0 hz1 hz2 rfl (by decide) (.slice A l.length c) l.length (rowsC l) rfl HR.out ⟨vb, 0, none⟩ 1 1 (rowC r) rfl rfl (fun j u hj => by rw [Addr.add_lit, Nat.zero_add, cell_at HV.out]; simpa using hj) (rowC_one r) (by unfold maxLen; omega) (by omega) hB ?_; intro v2 w2 hown2 hgr2 hnil2 hloc2; rw [HOB.out] at hgr2 hloc2; obtain ⟨A2, cc2, rfl⟩ := row_slice hown2; have HO2 := Lib.hid hown2; have HG2 := Lib.hid hgr2; have HL2 := Lib.hid hloc2; clear hown2 hgr2 hnil2 hloc2)
  | go_in)
 all_goals
  go_ret
  refine ⟨_, rfl, ?_, HG2.out, HL2.out⟩
  show World.ownsRow _ _ _ 4 _ (insL l l.length r).length _
  rw [insL_len, insL_cells, List.take_length, List.drop_length]
  have := HO2.out
  rw [show rowsC l ++ rowC r ++ rowsC [] = rowsC l ++ rowC r from List.append_nil _]
  exact this
set_option maxRecDepth 100000 in
set_option maxHeartbeats 4000000 in
theorem insert_room {b : Nat} (hr : OwnRows w base (.slice (some ⟨b, 0, none⟩) l.length c) l) (hv : w.heap[vb]? = some (.cells (rowC r).toArray 120 (0, 0))) (hvb : vb ≠ b) (hl : l.length ≤ 1000000000) (hi : i < l.length) (hroom : l.length + 1 ≤ c) :
  Calls Tryz.prog 102 #[.slice (some ⟨b, 0, none⟩) l.length c, .int .i64 (i : Nat), .slice (some ⟨vb, 0, none⟩) 1 1] w fun e w' => e = .returned (.slice (some ⟨b, 0, none⟩) (l.length + 1) c) ∧ OwnRows w' base (.slice (some ⟨b, 0, none⟩) (l.length + 1) c) (insL l i r) ∧ Tch (fun k => k = b) w w' := by
 obtain ⟨cs, hb, hcl, hct, hbb, _, hcm⟩ := own_blk_open hr
 have hc63 : c ≤ 9223372036854775807 := hcm
 have hz2 : ¬ ((i : Int) = (l.length : Int)) := by omega
 have hov : ∀ lb cb, (callFunc 136 #[.slice (some ⟨vb, 0, none⟩) 1 1, .slice (some ⟨b, (i + 1) * 4, none⟩) lb cb]).run Tryz.prog w = .ok (.value (.bool false)) w := fun lb cb => by
  rw [run_callFunc_extern Tryz.func136 (by kernel_rfl) (by kernel_rfl) (by kernel_rfl) (e := Extern.SlicesOverlaps.overlaps #[100, 100] #[4]) (by kernel_rfl),
   Lib.run_overlaps_apart w 100 4 120 Tryz.underlying100 4 (fun w => by kernel_rfl) ⟨vb, 0, none⟩ ⟨b, (i + 1) * 4, none⟩ 1 1 lb cb hvb 120 120 4 cs.length (by simp [World.shape?, hv, rowC]) (by unfold Blk at hb; simp [World.shape?, hb]) (by omega) (melt_at hv _) (melt_at hv _)]
  rfl
 have hdl : (rowsC (l.drop i)).length = (l.length - i) * 4 := by rw [rowsC_len, List.length_drop]
 have hw1 : IntKind.i64.wrap ((i : Int) + 1) = (i : Int) + 1 := by rw [IntKind.wrap_i64]; omega
 have hb1 : (0 : Int) ≤ (i : Int) + 1 := by omega
 have htn : ((i : Int) + 1).toNat = i + 1 := by omega
 have hb2 : ¬ (c = i + 1) := by omega
 have hb3 : (i : Int) ≤ (l.length : Int) + 1 := by omega
 have hb4 : ¬ (c = i) := by omega
 have hgt : ¬ ((c : Int) < (l.length : Int) + 1) := by omega
 have mixed : Tryz.prog.follows .mixedOrders = true := by kernel_rfl
 have hb5 : (i : Int) + 1 ≤ (l.length : Int) + 1 := by omega
 have hsrc : ∀ j v, (rowsC (l.drop i))[j]? = some v → cs[i * 4 + j]? = some v := fun j v hj => by
  have e : rowsC (l.drop i) = (rowsC l).drop (i * 4) := by unfold rowsC; rw [four_drop (f := rowC) (fun _ => rfl)]
  rw [e, List.getElem?_drop, ← hct, List.getElem?_take] at hj
  split at hj
  ·exact hj
  ·cases hj
 have hcp1 : ∀ ty dc sc, (Builtin.copy_ #[100, 100] ty #[.slice (some ⟨b, (i + 1) * 4, none⟩) (l.length - i) dc, .slice (some ⟨b, i * 4, none⟩) (l.length + 1 - i) sc]).run Tryz.prog w.drew = .ok (goInt (l.length - i : Nat)) (w.drew.setCells b ((i + 1) * 4) (rowsC (l.drop i))) := fun ty dc sc =>
  run_copy4 w.drew ty b ((i + 1) * 4) _ dc ⟨b, i * 4, none⟩ _ sc (l.length - i) (rowsC (l.drop i)) (by simp only [Nat.min_def]; split <;> omega) hdl
   (fun j v hj => by rw [Addr.add_lit]; exact (hb.cell _).trans (hsrc j v hj))
   (fun j hj => by rw [show w.drew.cell? ⟨b, (i + 1) * 4 + j, none⟩ = cs[(i + 1) * 4 + j]? from hb.cell _, List.getElem?_eq_getElem (by omega)]; rfl) (fun j hj => hb.melt _) (rowsC_one _)
 obtain ⟨W1, hW1⟩ : ∃ W1, W1 = w.drew.setCells b ((i + 1) * 4) (rowsC (l.drop i)) := ⟨_, rfl⟩
 have hblk1 : Blk W1 b 120 (cs.take ((i + 1) * 4) ++ rowsC (l.drop i) ++ cs.drop ((i + 1) * 4 + (rowsC (l.drop i)).length)) := by
  rw [hW1]
  exact Blk.cells (w := w.drew) _ _ hb (by omega)
 have hvs1 : W1.heap[vb]? = some (.cells (rowC r).toArray 120 (0, 0)) := by
  rw [hW1]
  exact (tch_cells b _ _ w.drew).keep hv hvb
 have hl1 : (cs.take ((i + 1) * 4) ++ rowsC (l.drop i) ++ cs.drop ((i + 1) * 4 + (rowsC (l.drop i)).length)).length = c * 4 := by
  simp only [List.length_append, List.length_take, List.length_drop, hdl]
  omega
 have hcp2 : ∀ (W : World), (∀ x, W.cell? x = W1.cell? x) → (∀ x, W.frozen? x = W1.frozen? x) → ∀ ty dc, (Builtin.copy_ #[100, 100] ty #[.slice (some ⟨b, i * 4, none⟩) (l.length + 1 - i) dc, .slice (some ⟨vb, 0, none⟩) 1 1]).run Tryz.prog W = .ok (goInt (1 : Nat)) (W.setCells b (i * 4) (rowC r)) := fun W hWc hWf ty dc =>
  run_copy4 W ty b (i * 4) _ dc ⟨vb, 0, none⟩ 1 1 1 (rowC r) (by simp only [Nat.min_def]; split <;> omega) rfl
   (fun j v hj => by rw [Addr.add_lit, Nat.zero_add, hWc, cell_at hvs1]; simpa using hj)
   (fun j hj => by rw [hWc, hblk1.cell, List.getElem?_eq_getElem (by rw [hl1]; have : (rowC r).length = 4 := rfl; omega)]; rfl) (fun j hj => by rw [hWf]; exact hblk1.melt _) (rowC_one r)
 have hfin : ∀ (W : World), W.heap = W1.heap → OwnRows (W.setCells b (i * 4) (rowC r)) base (.slice (some ⟨b, 0, none⟩) (l.length + 1) c) (insL l i r) := by
  intro W hW
  have hbW : Blk W b 120 (cs.take ((i + 1) * 4) ++ rowsC (l.drop i) ++ cs.drop ((i + 1) * 4 + (rowsC (l.drop i)).length)) := by
   unfold Blk at hblk1 ⊢
   rw [hW]
   exact hblk1
  have h2 := hbW.cells (rowC r) (i * 4) (by rw [hl1]; have : (rowC r).length = 4 := rfl; omega)
  show World.ownsRow _ _ _ 4 _ (insL l i r).length _
  rw [insL_len, insL_cells]
  refine own_blk_mk h2 ?_ ?_ hbb hroom hcm
  ·simp only [List.length_append, List.length_take, List.length_drop, hl1, show (rowC r).length = 4 from rfl, hdl]
   omega
  ·have eP : (cs.take ((i + 1) * 4)).length = (i + 1) * 4 := by rw [List.length_take]; omega
   have e1 : (cs.take ((i + 1) * 4) ++ rowsC (l.drop i) ++ cs.drop ((i + 1) * 4 + (rowsC (l.drop i)).length)).take (i * 4) = cs.take (i * 4) := by
    rw [List.append_assoc, List.take_append_of_le_length (by omega), List.take_take, Nat.min_eq_left (by omega)]
   have e2 : (cs.take ((i + 1) * 4) ++ rowsC (l.drop i) ++ cs.drop ((i + 1) * 4 + (rowsC (l.drop i)).length)).drop (i * 4 + (rowC r).length) = rowsC (l.drop i) ++ cs.drop ((i + 1) * 4 + (rowsC (l.drop i)).length) := by
    rw [List.append_assoc, List.drop_left' (by rw [eP, show (rowC r).length = 4 from rfl]; omega)]
   have e3 : rowsC (l.take i) = cs.take (i * 4) := by
    unfold rowsC
    rw [← four_take (f := rowC) (fun _ => rfl)]
    show (rowsC l).take (i * 4) = _
    rw [← hct, List.take_take, Nat.min_eq_left (by omega)]
   rw [e1, e2, ← e3, ← List.append_assoc, List.take_left']
   rw [List.length_append, List.length_append, hdl, rowsC_len, List.length_take, show (rowC r).length = 4 from rfl, Nat.min_eq_left (by omega)]
   omega
 rw [← hW1] at hcp1
 have HFIN := Lib.hid hfin
 have HW1 := Lib.hid hW1
 clear hfin hblk1 hvs1 hl1 hb hr hv hct hcl
 go_enter Tryz.func102, Tryz.ntmps102
 go_wp2_with (simp only [hov])
 go_region_law_o (refine step_copy_runI rfl _ _ 100 100 rfl _ _ (by simp [Act.eval, Act.put]) (by simp [Act.eval, Act.put]) (hcp1 _ _ _) ?_)
 go_wp2_with (at_builtin; refine wpList_copy_runI _ rfl _ _ 100 100 rfl _ _ rfl rfl (hcp2 _ (fun _ => rfl) (fun _ => rfl) _ _) ?_)
 go_ret
 refine ⟨rfl, HFIN.out _ (by rw [HW1.out]), ?_⟩
 exact (((Tch.refl (fun k => k = b) w).drewA).trans (tch_cells b _ _ _) (fun k hk => .inl hk)).trans (tch_cells b _ _ _) (fun k hk => .inl hk)
set_option maxRecDepth 100000 in
set_option maxHeartbeats 4000000 in
theorem insert_grow {b : Nat} (hr : OwnRows w base (.slice (some ⟨b, 0, none⟩) l.length c) l) (hv : w.heap[vb]? = some (.cells (rowC r).toArray 120 (0, 0))) (hl : l.length ≤ 1000000000) (hi : i < l.length) (hroom : c < l.length + 1) (hB : base ≤ w.heap.size) :
  Calls Tryz.prog 102 #[.slice (some ⟨b, 0, none⟩) l.length c, .int .i64 (i : Nat), .slice (some ⟨vb, 0, none⟩) 1 1] w fun e w' => ∃ v', e = .returned v' ∧ OwnRows w' base v' (insL l i r) ∧ Tch (fun _ => False) w w' ∧ v'.ownBlock = some w.heap.size := by
 obtain ⟨cs, hb, hcl, hct, hbb, hnc, hcm⟩ := own_blk_open hr
 have hcn : c = l.length := by omega
 subst hcn
 obtain ⟨i0, hif, hz⟩ := Option.map_eq_some_iff.1 row_info
 simp only [Prod.mk.injEq] at hz
 obtain ⟨hz0, hzs, hzb⟩ := hz
 have hcs : cs = rowsC l := by rw [← hct, List.take_of_length_le (by omega)]
 have hc63 : l.length ≤ 9223372036854775807 := hcm
 have hbw : b < w.heap.size := blk_lt hb
 have hvw : vb < w.heap.size := blk_lt hv
 have hz2 : ¬ ((i : Int) = (l.length : Int)) := by omega
 have hz3 : (l.length : Int) < (l.length : Int) + 1 := by omega
 have hkk : (l.length : Int) + 1 - (i : Int) = ((l.length + 1 - i : Nat) : Int) := by omega
 have hik : i + (l.length + 1 - i) = l.length + 1 := by omega
 have e3 : rowsC (l.take i) = cs.take (i * 4) := by
  unfold rowsC
  rw [← four_take (f := rowC) (fun _ => rfl), hcs]
  rfl
 have e4 : rowsC (l.drop i) = cs.drop (i * 4) := by
  unfold rowsC
  rw [← four_drop (f := rowC) (fun _ => rfl), hcs]
  rfl
 have hold : (Builtin.firstCells i0.size i (.slice (some ⟨b, 0, none⟩) i l.length)).run Tryz.prog w.drew = .ok (rowsC (l.take i)).toArray w.drew := by
  rw [hzs]
  exact run_firstCells_some w.drew 4 i ⟨b, 0, none⟩ i l.length (rowsC (l.take i)) (by rw [rowsC_len, List.length_take]; omega) (fun j v hj => by
   rw [Addr.add_lit, Nat.zero_add]
   rw [e3, List.getElem?_take] at hj
   split at hj
   ·exact (hb.cell j).trans hj
   ·cases hj)
 have hrz : ∀ ty, (Builtin.append_ #[100, 3] ty #[.slice (some ⟨b, 0, none⟩) i l.length, .int .i64 ((l.length : Int) + 1 - (i : Int))]).run Tryz.prog w =
   .ok (.slice (some ⟨w.heap.size, 0, none⟩) (l.length + 1) (grownCap w (l.length + 1) l.length 120)) (w.drew.alloc (.cells ((rowsC (l.take i)).toArray ++ Builtin.zeroCells (Value.agg #[.string ByteArray.empty, .string ByteArray.empty, .int .i64 0, .int .i64 0]).cells (l.length + 1 - i) ++ Builtin.zeroCells (Value.agg #[.string ByteArray.empty, .string ByteArray.empty, .int .i64 0, .int .i64 0]).cells (grownCap w (l.length + 1) l.length 120 - (l.length + 1))) 120)) := fun ty => by
  have h := Lib.run_append_grow_zeros w 100 3 ty 120 i0 _ .i64 .i64 Tryz.underlying100 Tryz.underlying3 hif hz0 (some ⟨b, 0, none⟩) i l.length (rowsC (l.take i)) hold (l.length + 1 - i) (by omega) (by omega) (by omega) (by omega) (by rw [hzb]; omega) (by rw [hzb, hik]; exact growslice_fits (by omega) (by omega))
  rw [hik] at h
  rw [hkk]
  exact h
 obtain ⟨G, hG⟩ : ∃ G, G = grownCap w (l.length + 1) l.length 120 := ⟨_, rfl⟩
 obtain ⟨ROW, hROW⟩ : ∃ ROW : Array Value, ROW = (rowsC (l.take i)).toArray ++ Builtin.zeroCells (Value.agg #[.string ByteArray.empty, .string ByteArray.empty, .int .i64 0, .int .i64 0]).cells (l.length + 1 - i) ++ Builtin.zeroCells (Value.agg #[.string ByteArray.empty, .string ByteArray.empty, .int .i64 0, .int .i64 0]).cells (G - (l.length + 1)) := ⟨_, rfl⟩
 rw [← hG] at hrz
 rw [← hROW] at hrz
 have hGn : l.length + 1 ≤ G := by rw [hG]; exact grownCap_ge w _ _ _
 have hGm : G ≤ maxLen := by
  rw [hG]
  exact grownCap_le_maxLen w (l.length + 1) l.length 120 (by unfold maxLen; omega)
 have hG63 : G ≤ 9223372036854775807 := hGm
 have hRs : ROW.toList.length = G * 4 := by
  rw [hROW]
  have z1 := zeroCells_len (l.length + 1 - i)
  have z2 := zeroCells_len (G - (l.length + 1))
  simp only [Array.toList_append, List.length_append, z1, z2, rowsC_len, List.length_take]
  omega
 have hRt : ROW.toList.take (i * 4) = rowsC (l.take i) := by
  rw [hROW]
  simp only [Array.toList_append, List.append_assoc]
  rw [List.take_left' (by rw [rowsC_len, List.length_take]; omega)]
 have hdl : (rowsC (l.drop i)).length = (l.length - i) * 4 := by rw [rowsC_len, List.length_drop]
 obtain ⟨W1, hW1⟩ : ∃ W1, W1 = w.drew.alloc (.cells ROW 120) := ⟨_, rfl⟩
 rw [← hW1] at hrz
 have hT1 : Tch (fun _ => False) w W1 := by rw [hW1]; exact (Tch.refl _ w).drewA.andAlloc _
 have hN : Blk W1 w.heap.size 120 ROW.toList := by rw [hW1]; unfold Blk; exact alloc_new w.drew _
 have hb1 : Blk W1 b 120 cs := hb.tch hT1 id
 have hv1 : W1.heap[vb]? = some (.cells (rowC r).toArray 120 (0, 0)) := hT1.keep hv id
 have hcpA : ∀ (W : World), (∀ x, W.cell? x = W1.cell? x) → (∀ x, W.frozen? x = W1.frozen? x) → ∀ ty dc, (Builtin.copy_ #[100, 100] ty #[.slice (some ⟨w.heap.size, i * 4, none⟩) (l.length + 1 - i) dc, .slice (some ⟨vb, 0, none⟩) 1 1]).run Tryz.prog W = .ok (goInt (1 : Nat)) (W.setCells w.heap.size (i * 4) (rowC r)) := fun W hWc hWf ty dc =>
  run_copy4 W ty w.heap.size (i * 4) _ dc ⟨vb, 0, none⟩ 1 1 1 (rowC r) (by simp only [Nat.min_def]; split <;> omega) rfl
   (fun j v hj => by rw [Addr.add_lit, Nat.zero_add, hWc, cell_at hv1]; simpa using hj)
   (fun j hj => by rw [hWc, hN.cell, List.getElem?_eq_getElem (by rw [hRs]; have : (rowC r).length = 4 := rfl; omega)]; rfl) (fun j hj => by rw [hWf]; exact hN.melt _) (rowC_one r)
 have hbN : b ≠ w.heap.size := by omega
 have hN2 := hN.cells (rowC r) (i * 4) (by rw [hRs]; have : (rowC r).length = 4 := rfl; omega)
 have hb2 : Blk (W1.setCells w.heap.size (i * 4) (rowC r)) b 120 cs := hb1.tch (tch_cells w.heap.size _ _ _) hbN
 have hl2 : (ROW.toList.take (i * 4) ++ rowC r ++ ROW.toList.drop (i * 4 + (rowC r).length)).length = G * 4 := by
  simp only [List.length_append, List.length_take, List.length_drop, hRs, show (rowC r).length = 4 from rfl]
  omega
 have hcpB : ∀ (W : World), (∀ x, W.cell? x = (W1.setCells w.heap.size (i * 4) (rowC r)).cell? x) → (∀ x, W.frozen? x = (W1.setCells w.heap.size (i * 4) (rowC r)).frozen? x) → ∀ ty dc sc, (Builtin.copy_ #[100, 100] ty #[.slice (some ⟨w.heap.size, (i + 1) * 4, none⟩) (l.length - i) dc, .slice (some ⟨b, i * 4, none⟩) (l.length - i) sc]).run Tryz.prog W = .ok (goInt (l.length - i : Nat)) (W.setCells w.heap.size ((i + 1) * 4) (rowsC (l.drop i))) := fun W hWc hWf ty dc sc =>
  run_copy4 W ty w.heap.size ((i + 1) * 4) _ dc ⟨b, i * 4, none⟩ _ sc (l.length - i) (rowsC (l.drop i)) (by simp) hdl
   (fun j v hj => by rw [Addr.add_lit, hWc, hb2.cell]; rw [e4, List.getElem?_drop] at hj; exact hj)
   (fun j hj => by rw [hWc, hN2.cell, List.getElem?_eq_getElem (by rw [hl2]; omega)]; rfl) (fun j hj => by rw [hWf]; exact hN2.melt _) (rowsC_one _)
 have hfin : ∀ (W : World), W.heap = (W1.setCells w.heap.size (i * 4) (rowC r)).heap → OwnRows (W.setCells w.heap.size ((i + 1) * 4) (rowsC (l.drop i))) base (.slice (some ⟨w.heap.size, 0, none⟩) (l.length + 1) G) (insL l i r) := by
  intro W hW
  have hbW : Blk W w.heap.size 120 (ROW.toList.take (i * 4) ++ rowC r ++ ROW.toList.drop (i * 4 + (rowC r).length)) := by
   unfold Blk at hN2 ⊢
   rw [hW]
   exact hN2
  have h2 := hbW.cells (rowsC (l.drop i)) ((i + 1) * 4) (by rw [hl2, hdl]; omega)
  show World.ownsRow _ _ _ 4 _ (insL l i r).length _
  rw [insL_len, insL_cells]
  have ePr : (ROW.toList.take (i * 4) ++ rowC r).length = (i + 1) * 4 := by
   rw [List.length_append, List.length_take, hRs, show (rowC r).length = 4 from rfl]
   omega
  refine own_blk_mk h2 ?_ ?_ hB hGn hGm
  ·simp only [List.length_append, List.length_take, List.length_drop, hRs, show (rowC r).length = 4 from rfl, hdl]
   omega
  ·rw [List.take_left' ePr, hRt, List.take_left']
   rw [List.length_append, List.length_append, hdl, rowsC_len, List.length_take, show (rowC r).length = 4 from rfl, Nat.min_eq_left (by omega)]
   omega
 have hGi : ¬ (G = i) := by omega
 have hGim : ¬ (G = i + 1) := by omega
 have hci : ¬ (l.length = i) := by omega
 have hw1 : IntKind.i64.wrap ((i : Int) + 1) = (i : Int) + 1 := by rw [IntKind.wrap_i64]; omega
 have hp1 : (0 : Int) ≤ (i : Int) + 1 := by omega
 have hp5 : (i : Int) + 1 ≤ (l.length : Int) + 1 := by omega
 have htn : ((i : Int) + 1).toNat = i + 1 := by omega
 have hp3 : (i : Int) ≤ (l.length : Int) := by omega
 have mixed : Tryz.prog.follows .mixedOrders = true := by kernel_rfl
 have HFIN := Lib.hid hfin
 have HT1 := Lib.hid hT1
 subst hW1
 have hE1 : ∀ x, ((w.alloc (.cells ROW 120)).drew).cell? x = (w.drew.alloc (.cells ROW 120)).cell? x := fun x => rfl
 have hE2 : ∀ x, ((w.alloc (.cells ROW 120)).drew).frozen? x = (w.drew.alloc (.cells ROW 120)).frozen? x := fun x => rfl
 have hF1 : ∀ x, (((w.alloc (.cells ROW 120)).drew.setCells w.heap.size (i * 4) (rowC r)).drew).cell? x = ((w.drew.alloc (.cells ROW 120)).setCells w.heap.size (i * 4) (rowC r)).cell? x := fun x => rfl
 have hF2 : ∀ x, (((w.alloc (.cells ROW 120)).drew.setCells w.heap.size (i * 4) (rowC r)).drew).frozen? x = ((w.drew.alloc (.cells ROW 120)).setCells w.heap.size (i * 4) (rowC r)).frozen? x := fun x => rfl
 clear hfin hkk hik hold hROW hG hRs hRt hN hb1 hv1 hN2 hb2 hl2 hT1 hb hv hr e3 e4 hct hcl hcs
 go_enter Tryz.func102, Tryz.ntmps102
 go_wp2_with (first
  | (at_builtin; refine Lib.wpList_append_run _ rfl _ _ _ _ rfl _ _ rfl rfl _ _ (hrz _) ?_)
  | (at_builtin; refine wpList_copy_runI _ rfl _ _ 100 100 rfl _ _ rfl rfl (hcpA _ hE1 hE2 _ _) ?_))
 go_region_law_o (refine step_copy_runI rfl _ _ 100 100 rfl (.slice (some ⟨w.heap.size, (i + 1) * 4, none⟩) (l.length - i) (G - (i + 1))) (.slice (some ⟨b, i * 4, none⟩) (l.length - i) (l.length - i)) (by simp [Act.eval, Act.put]) (by simp [Act.eval, Act.put]) (hcpB _ hF1 hF2 3 (G - (i + 1)) (l.length - i)) ?_)
 go_wp2
 go_ret
 refine ⟨_, rfl, HFIN.out _ rfl, ?_, rfl⟩
 exact ((((HT1.out.mono (G := fun k => k = w.heap.size) (fun _ h _ => h.elim)).trans (tch_cells w.heap.size _ _ _) (fun k hk => .inl hk)).drewA).trans (tch_cells w.heap.size _ _ _) (fun k hk => .inl hk)).mono (fun k hk hlt => by omega)
theorem insertRows (hr : OwnRows w base (.slice A l.length c) l) (hv : w.heap[vb]? = some (.cells (rowC r).toArray 120 (0, 0))) (hvb : (Value.slice A l.length c).ownBlock ≠ some vb) (hl : l.length ≤ 1000000000) (hi : i ≤ l.length) (hB : base ≤ w.heap.size) :
  Calls Tryz.prog 102 #[.slice A l.length c, .int .i64 (i : Nat), .slice (some ⟨vb, 0, none⟩) 1 1] w fun e w' => ∃ v', e = .returned v' ∧ OwnRows w' base v' (insL l i r) ∧ Tch (fun k => (Value.slice A l.length c).ownBlock = some k) w w' ∧ (v'.ownBlock = (Value.slice A l.length c).ownBlock ∨ v'.ownBlock = some w.heap.size) := by
 by_cases he : i = l.length
 ·subst he
  refine (insert_end hr hv hl hB rfl).mono ?_
  rintro e w' ⟨v', h1, h2, h3, h4⟩
  exact ⟨v', h1, h2, .of_grown h3 (fun k hk => .inl hk), h4⟩
 ·have hlt : i < l.length := by omega
  obtain ⟨b, rfl, _, _⟩ := row_blk hr hlt
  by_cases hroom : l.length + 1 ≤ c
  ·refine (insert_room hr hv (fun e => hvb (by rw [e]; rfl)) hl hlt hroom).mono ?_
   rintro e w' ⟨h1, h2, h3⟩
   exact ⟨_, h1, by rw [← insL_len l i r] at h2 ⊢; exact h2, h3.mono (fun k hk _ => by rw [hk]; rfl), .inl rfl⟩
  ·refine (insert_grow hr hv hl hlt (by omega) hB).mono ?_
   rintro e w' ⟨v', h1, h2, h3, h4⟩
   exact ⟨v', h1, h2, h3.mono (fun k hk _ => hk.elim), .inr h4⟩
end
section
variable {w w' : World} {vb bp : Nat} {v : VM} {rv : Value} {F H : Nat → Prop} {m : Mach}
theorem kept1_calls (r : RowM) (x : L) (nb : Nat) (hn : w.heap[nb]? = some (.cells #[.string (mkB x)] 9 (0, 0))) :
  Calls Tryz.prog 134 (#[.agg #[.string (mkB r.name), .string (mkB r.file), .int .i64 (r.size : Int), .int .i64 (r.sum : Int)]] ++ #[.pointer (some ⟨nb, 0, none⟩)]) w fun e w' => e = .returned (.bool (r.file == x)) ∧ Below w.heap.size w w' := by
 have hlt := blk_lt hn
 have c0 : w.cell? ⟨nb, 0, none⟩ = some (.string (mkB x)) := cell_at hn 0
 have k1 : ¬ nb = w.heap.size := by omega
 have k2 : ¬ w.heap.size = nb := by omega
 have e1 : ((mkB r.file).toList == (mkB x).toList) = (r.file == x) := by rw [ByteArray.toList_eq, ByteArray.toList_eq, mkB_data, mkB_data]
 generalize (r.file == x) = q at *
 clear hn
 show Calls Tryz.prog _ #[_, _] _ _
 go_enter Tryz.func134, Tryz.ntmps134
 go_wp2
 go_ret
 exact ⟨rfl, (Below.refl _ _).alloc (Nat.le_refl _) _⟩
theorem kept1_eg : ∀ args w, (callFunc 134 args).run Tryz.prog w = .ok (.enter 134 args) w := enters_of Tryz.func134 zb10 rfl
set_option maxRecDepth 100000 in
set_option maxHeartbeats 4000000 in
theorem kept_calls (h : VP w vb bp v rv) (x : L) : Calls Tryz.prog 96 #[.pointer (some ⟨vb, 0, none⟩), .string (mkB x)] w fun e w' => e = .returned (.bool (v.keeps x)) ∧ Below w.heap.size w w' := by
 obtain ⟨A, c, rfl⟩ := row_slice h.rows
 have hlt := blk_lt h.top
 have k1 : ¬ vb = w.heap.size := by omega
 have k2 : ¬ w.heap.size = vb := by omega
 have c1 : w.cell? ⟨vb, 1, none⟩ = some (.int .i64 (v.n : Int)) := cell_at h.top 1
 have c2 : w.cell? ⟨vb, 2, none⟩ = some (.slice A v.rows.length c) := cell_at h.top 2
 have HC := Lib.hid (containsRows (w := w.alloc (.cells #[.string (mkB x)] 9 (0, 0))) (p := fun r => r.file == x) (F := fun _ => False) kept1_eg (h.rows.alloc _) (lb := #[.pointer (some ⟨w.heap.size, 0, none⟩)]) (fun W r _ t => kept1_calls r x w.heap.size (t.keep (alloc_new w _) id)))
 clear h
 have hkeep : v.keeps x = ((x == manL && decide (0 < v.n)) || v.rows.any fun r => r.file == x) := rfl
 have HK := Lib.hid hkeep
 clear hkeep
 have hm : ((mkB x).toList == [109, 97, 110, 105, 102, 101, 115, 116]) = (x == manL) := by rw [ByteArray.toList_eq, mkB_data]; rfl
 cases hq : (x == manL) with
 | true =>
  rw [hq] at hm
  by_cases hn : 0 < v.n
  ·have hn' : (v.n : Int) > 0 := by omega
   go_enter Tryz.func96, Tryz.ntmps96
   go_wp2
   go_ret
   refine ⟨?_, (Below.refl _ _).alloc (Nat.le_refl _) _⟩
   rw [HK.out, hq, decide_eq_true hn]
   rfl
  ·have hn' : ¬ (v.n : Int) > 0 := by omega
   go_enter Tryz.func96, Tryz.ntmps96
   go_wp2_with (first
    | (go_at_call 92; refine HC.out.mono ?_; rintro e w2 ⟨rfl, hb2⟩)
    | go_in)
   go_ret
   refine ⟨?_, ((Below.refl _ _).alloc (Nat.le_refl _) _).trans (hb2.mono zb35)⟩
   rw [HK.out, hq, decide_eq_false hn]
   rfl
 | false =>
  rw [hq] at hm
  go_enter Tryz.func96, Tryz.ntmps96
  go_wp2_with (first
   | (go_at_call 92; refine HC.out.mono ?_; rintro e w2 ⟨rfl, hb2⟩)
   | go_in)
  go_ret
  refine ⟨?_, ((Below.refl _ _).alloc (Nat.le_refl _) _).trans (hb2.mono zb35)⟩
  rw [HK.out, hq]
  rfl
end
section
variable {w w1 w2 w' : World} {vb bp C K : Nat} {v : VM} {rv : Value} {F G H : Nat → Prop} {m : Mach} {r : Int × Mach} {e : Ending}
/-- A plate's blocks, but only those that are there. -/
theorem Plate.tight (h : Plate w bp m F) : Plate w bp m (fun i => F i ∧ i < w.heap.size) := by
 obtain ⟨x, Lv, hx, hF⟩ := h
 exact ⟨x, Lv, hx, fun i hi => ⟨hF i hi, hx.lt hi⟩⟩
theorem Plate.still (h : Plate w bp m F) (b : Below w.heap.size w w') : Plate w' bp m F := h.move (fun i _ hl => b.block i hl)
theorem Plate.start (h : Plate w bp m F) : Plate w bp m (grow F w w) := h.widen (fun i hi => .inl hi)
/-- One step more: what has turned since w1. -/
theorem done_chain (ht : Tch F w1 w2) (hd : Done bp (grow F w1 w2) w2 r e w') : Done bp F w1 r e w' := by
 obtain ⟨h1, h2, h3⟩ := hd
 refine ⟨h1, h2.widen (fun i hi => ?_), ht.trans h3 (fun k hk => hk.imp id (fun h => h.1))⟩
 rcases hi with (hi | hi) | hi
 ·exact .inl hi
 ·exact .inr ⟨hi.1, Nat.lt_of_lt_of_le hi.2 h3.size⟩
 ·exact .inr ⟨Nat.le_trans ht.size hi.1, hi.2⟩
theorem done_still (ht : Tch F w1 w2) (hp : Plate w2 bp m (grow F w1 w2)) (hb : Below w2.heap.size w2 w') : Plate w' bp m (grow F w1 w') ∧ Tch F w1 w' :=
 ⟨(hp.still hb).widen (fun i hi => hi.imp id (fun h => ⟨h.1, Nat.lt_of_lt_of_le h.2 hb.size⟩)), ht.andBelow hb⟩
/-- Ahead of it nothing but new blocks. -/
theorem done_ahead (hb : Below w.heap.size w w1) (hd : Done bp F w1 r e w') : Done bp F w r e w' := by
 obtain ⟨h1, h2, h3⟩ := hd
 exact ⟨h1, h2.widen (fun i hi => hi.imp id (fun h => ⟨Nat.le_trans hb.size h.1, h.2⟩)), (Tch.of_below hb).trans h3 (fun k hk => .inl hk)⟩
theorem done_mono (hd : Done bp F w r e w') (hF : ∀ i, F i → G i) : Done bp G w r e w' := ⟨hd.1, hd.2.1.widen (fun i hi => hi.imp (hF i) id), hd.2.2.mono (fun k hk _ => hF k hk)⟩
theorem kept_eg : ∀ args w, (callFunc 96 args).run Tryz.prog w = .ok (.enter 96 args) w := enters_of Tryz.func96 zb10 rfl
theorem mkB_name {x : L} (h : nameOk x = true) : (mkB x).size ≤ 100000000000000 := by
 have := nameOk_len h
 rw [mkB_size]
 omega
theorem goAll_drop {gl : List L} {x : L} {j : Nat} {mj : Mach} (hx : gl[j]? = some x) : goAll (gl.drop j) mj = if (remove mj x).1 = 0 then goAll (gl.drop (j + 1)) (remove mj x).2 else remove mj x := by
 obtain ⟨h1, h2⟩ := List.getElem?_eq_some_iff.1 hx
 rw [List.drop_eq_getElem_cons h1, h2]
 rfl
set_option maxRecDepth 100000 in
set_option maxHeartbeats 8000000 in
theorem sweep_calls (hv : VP w vb bp v rv) (hp0 : Plate w bp m F) (ha : ∀ i, vfoot vb rv i → ¬ F i) (hg : Good C K m) (hC : C + 2 * K ≤ 10000000) :
  Calls Tryz.prog 57 #[.pointer (some ⟨vb, 0, none⟩)] w (Done bp F w (sweep v m)) := by
 have hp := hp0.tight
 obtain ⟨F0, hF0⟩ : ∃ F0 : Nat → Prop, F0 = fun i => F i ∧ i < w.heap.size := ⟨_, rfl⟩
 rw [← hF0] at hp
 have HFF := Lib.hid (show ∀ i, F0 i → F i from fun i hi => by rw [hF0] at hi; exact hi.1)
 have HFL := Lib.hid (show ∀ i, F0 i → i < w.heap.size from fun i hi => by rw [hF0] at hi; exact hi.2)
 have HA := Lib.hid (show ∀ i, vfoot vb rv i → ¬ F0 i from fun i hi h => ha i hi (HFF.out i h))
 have HV := Lib.hid hv
 have HG := Lib.hid hg
 have HP := Lib.hid hp
 have c0 : w.cell? ⟨vb, 0, none⟩ = some (.pointer (some ⟨bp, 0, none⟩)) := cell_at hv.top 0
 have hK := hg.cap.now
 have hll : (list m).length = m.now.length := by unfold list; rw [List.length_map]
 obtain ⟨gl, hgl⟩ : ∃ gl, gl = (list m).filter fun x => !v.keeps x := ⟨_, rfl⟩
 have hglen : gl.length ≤ K := by rw [hgl]; exact Nat.le_trans (List.length_filter_le _ _) zb13
 have HGL := Lib.hid hgl
 have HLL := Lib.hid hll
 have HL := Lib.hid (List_calls hp hg.inv zb13)
 have HDEL := Lib.hid (fun (W : World) (A : Option Addr) (c : Nat) (hb : Below w.heap.size w W) (hr : OwnStrs W w.heap.size (.slice A (list m).length c) (list m)) =>
  deleteStrs (u := .pointer (some ⟨vb, 0, none⟩)) (p := v.keeps) kept_eg hr (fun W2 x t => kept_calls ((hv.tch (F := fun _ => False) (.of_below hb) (fun _ _ => id)).tch t (fun i hi h => by
   have h1 := own_base hr i h
   have h2 := hv.lt hi
   omega)) x))
 clear hv hp hp0 ha hF0 hgl hll
 have hsw : sweep v m = if gl = [] then (0, m) else if (goAll gl m).1 = 0 then syncDir (goAll gl m).2 else goAll gl m := by rw [HGL.out]; rfl
 have HSW := Lib.hid hsw
 clear hsw
 suffices hs : Calls Tryz.prog 57 #[.pointer (some ⟨vb, 0, none⟩)] w (Done bp F0 w (sweep v m)) from hs.mono (fun e w' h => done_mono h HFF.out)
 go_enter Tryz.func57, Tryz.ntmps57
 go_wp2_with (first
  | (go_at_call 31; refine HL.out.mono ?_; rintro e w1 ⟨lv, rfl, ho, hp1, hb1⟩; rw [← HLL.out] at ho; obtain ⟨A, c, rfl⟩ := row_slice ho; have HO1 := Lib.hid ho; have HP1 := Lib.hid hp1; have HB1 := Lib.hid hb1; clear ho hp1 hb1)
  | (go_at_call 95; refine (HDEL.out _ _ _ HB1.out HO1.out).mono ?_; rintro e w2 ⟨v2, rfl, ho2, ht2, hob2⟩; rw [← HGL.out] at ho2; obtain ⟨A2, c2, rfl⟩ := row_slice ho2; have HO2 := Lib.hid ho2; have HT2 := Lib.hid ht2; clear ho2 ht2 hob2)
  | go_in)
 have hb2 : Below w.heap.size w w2 := HB1.out.trans (HT2.out.below HB1.out.size (fun k hk => own_base HO1.out k hk))
 have hp2 : Plate w2 bp m F0 := HP1.out.move (fun i hi hl => HT2.out.block i hl (fun hk => by
  have h1 := own_base HO1.out i hk
  have h2 := HFL.out i hi
  omega))
 have hv2 : VP w2 vb bp v rv := HV.out.tch (F := fun _ => False) (.of_below hb2) (fun _ _ => id)
 have HB2 := Lib.hid hb2
 have HP2 := Lib.hid hp2
 have HV2 := Lib.hid hv2
 clear hb2 hp2 hv2
 go_loopw [5, 6, 17] (fun _ _ v17 wr => ∃ (j : Nat) (mj : Mach), v17 = Value.int .i64 (j : Int) ∧ j ≤ gl.length ∧ goAll gl m = goAll (gl.drop j) mj ∧ Good (C + 2 * j) K mj ∧ Plate wr bp mj (grow F0 w2 wr) ∧ Tch F0 w2 wr)
  (fun _ _ v17 _ => gl.length - (intOf v17).toNat)
 case atStart => exact ⟨0, m, rfl, Nat.zero_le _, rfl, HG.out, HP2.out.start, Tch.refl _ _⟩
 case round =>
  obtain ⟨j, mj, rfl, hjl, hgo, hgj, hpj, htj⟩ := hrel
  have HGO := Lib.hid hgo
  have HGJ := Lib.hid hgj
  have HPJ := Lib.hid hpj
  have HTJ := Lib.hid htj
  have hvj : VP wr vb bp v rv := HV2.out.tch htj HA.out
  have d0 : wr.cell? ⟨vb, 0, none⟩ = some (.pointer (some ⟨bp, 0, none⟩)) := cell_at hvj.top 0
  clear hgo hgj hpj htj hvj
  by_cases hlt : j < gl.length
  ·have hdec : ((j : Int) < (gl.length : Int)) := by omega
   obtain ⟨x, hx⟩ : ∃ x, gl[j]? = some x := ⟨_, List.getElem?_eq_getElem hlt⟩
   have hrow : OwnStrs wr w.heap.size (.slice A2 gl.length c2) gl := own_tch HO2.out HTJ.out (fun k hk hf => by
    have h1 := own_base HO2.out k hk
    have h2 := HFL.out k hf
    omega)
   obtain ⟨b, rfl, _, _⟩ := row_blk hrow hlt
   have cx := (cellAt1 hrow j hlt).trans (strsC_at gl j x hx)
   have hxn : nameOk x = true := by
    have h1 := List.mem_of_getElem? hx
    rw [HGL.out] at h1
    have h2 := (List.mem_filter.1 h1).1
    unfold list at h2
    obtain ⟨p, hp, rfl⟩ := List.mem_map.1 h2
    exact HG.out.named.now p hp
   have hrm := Remove_calls (mkB x) HPJ.out HGJ.out.inv zb13 (mkB_name hxn)
   rw [mkB_data] at hrm
   have hgd := goAll_drop (mj := mj) hx
   have hgr := HGJ.out.remove x
   obtain ⟨z, mz, hzm⟩ : ∃ z mz, remove mj x = (z, mz) := ⟨_, _, rfl⟩
   rw [hzm] at hrm hgd hgr
   simp only at hgd hgr
   have HRM := Lib.hid hrm
   have HGD := Lib.hid hgd
   have HGR := Lib.hid hgr
   clear hrm hgd hgr hrow hx hxn hzm
   by_cases hz : z = 0
   ·subst hz
    go_wp2_with (first
     | (go_at_call 97; refine HRM.out.mono ?_; rintro e w3 hd3; have hd4 := done_chain HTJ.out hd3; obtain ⟨rfl, hp4, ht4⟩ := hd4; have HP4 := Lib.hid hp4; have HT4 := Lib.hid ht4; clear hd3 hp4 ht4)
     | go_in)
    go_roundw
    case rel =>
     refine ⟨j + 1, mz, by push_cast; rfl, by omega, ?_, HGR.out.mono zb13 (Nat.le_refl _), HP4.out, HT4.out⟩
     rw [HGO.out, HGD.out]
     simp
    case measure =>
     show gl.length - ((j : Int) + 1).toNat < gl.length - (j : Int).toNat
     omega
   ·have hz1 : (z != 0) = true := by simpa using hz
    have hfin : sweep v m = (z, mz) := by
     have hgm : goAll gl m = (z, mz) := by rw [HGO.out, HGD.out, if_neg hz]
     rw [HSW.out, hgm, if_neg (show ¬ gl = [] by rintro rfl; simp at hlt), if_neg hz]
    have HFIN := Lib.hid hfin
    clear hfin
    go_wp2_with (first
     | (go_at_call 97; refine HRM.out.mono ?_; rintro e w3 hd3; have hd4 := done_chain HTJ.out hd3; obtain ⟨rfl, hp4, ht4⟩ := hd4; have HP4 := Lib.hid hp4; have HT4 := Lib.hid ht4; clear hd3 hp4 ht4)
     | go_in)
    go_ret
    rw [HFIN.out]
    exact done_ahead HB2.out ⟨rfl, HP4.out, HT4.out⟩
  ·have hdec : ¬ ((j : Int) < (gl.length : Int)) := by omega
   have hje : j = gl.length := by omega
   subst hje
   have hgm : goAll gl m = (0, mj) := by rw [HGO.out, List.drop_length]; rfl
   have HGM := Lib.hid hgm
   clear hgm
   by_cases hnil : gl = []
   ·have hl0 : gl.length = 0 := by rw [hnil]; rfl
    have hmj : mj = m := by
     have h1 := HGM.out
     rw [hnil] at h1
     exact (congrArg Prod.snd h1).symm
    have hfin : sweep v m = (0, mj) := by rw [HSW.out, if_pos hnil, hmj]
    have HFIN := Lib.hid hfin
    clear hfin hmj hnil
    go_wp2
    go_ret
    rw [HFIN.out]
    exact done_ahead HB2.out ⟨rfl, HPJ.out, HTJ.out⟩
   ·have hl0 : ¬ gl.length = 0 := fun h => hnil (List.eq_nil_of_length_eq_zero h)
    have hfin : sweep v m = syncDir mj := by rw [HSW.out, if_neg hnil, HGM.out, if_pos rfl]
    have HFIN := Lib.hid hfin
    have HSD := Lib.hid (SyncDir_calls HPJ.out HGJ.out.inv)
    clear hfin hnil
    obtain ⟨z, mz, hzm⟩ : ∃ z mz, syncDir mj = (z, mz) := ⟨_, _, rfl⟩
    rw [hzm] at HFIN HSD
    clear hzm
    go_wp2_with (first
     | (go_at_call 28; refine HSD.out.mono ?_; rintro e w3 hd3; have hd4 := done_chain HTJ.out hd3; obtain ⟨rfl, hp4, ht4⟩ := hd4; have HP4 := Lib.hid hp4; have HT4 := Lib.hid ht4; clear hd3 hp4 ht4)
     | go_in)
    go_ret
    rw [HFIN.out]
    exact done_ahead HB2.out ⟨rfl, HP4.out, HT4.out⟩
end
end Go.Proofs.YtfpbpakgajddnaaGreatDoor.Pl
/- Px6 -/
namespace Go.Proofs.YtfpbpakgajddnaaGreatDoor.P
open Go.Proofs.YtfpbpakgajddnaaGreatDoor.B
open Go.RowKit Go.Proofs.YtfpbpakgajddnaaGreatDoorW.PrintWords Go.Proofs.YtfpbpakgajddnaaGreatDoorW.PrintLast Go.Proofs.YtfpbpakgajddnaaGreatDoorW.PrintMore
attribute [local go_sem] run_store_float str_leq str_gtr str_geq max2_int min2_int max_two min_two max_three min_three max_four min_four
set_option linter.unusedVariables false
set_option linter.unusedSimpArgs false
def manifest_near.l0 : Nat → List Int → Int → Int → Option (Bool)
  | 0, _, _, _ => none
  | k + 1, x5, x6, x7 => if x7 < x6 then (if 0 ≤ x7 then (if x7 < (x5.length : Int) then (if (rd x5 x7) < 0 then (some false) else (if (rd x5 x7) > 1099511627776 then (some false) else (manifest_near.l0 k x5 x6 (wrap64 (x7 + 1))))) else (none)) else (none)) else (some true)
def manifest_near.f (k : Nat) (l0 : List Int) : Option (Bool) := manifest_near.l0 k l0 (l0.length : Int) 0
set_option maxHeartbeats 8000000 in
set_option maxRecDepth 100000 in
theorem manifest_near.calls (k : Nat) (A0 : Option Addr) (c0 : Nat) (l0 : List Int) (r : Bool) (w : World) (hr0 : Kd.C (Kd.int .i64) w A0 l0.length l0) (hc0 : l0.length ≤ c0) (h : manifest_near.f k l0 = some r) :
  Calls Tryz.prog 108 #[.slice A0 l0.length c0] w fun e w' => e = .returned (.bool r) ∧ Drawn0 w w' := by
 have HR0 := Aside0.mk hr0
 have HC0 := Aside0.mk hc0
 clear hr0 hc0
 have H : (manifest_near.l0 k l0 (l0.length : Int) 0) = some r := h
 clear h
 have H' := Aside0.mk H
 clear H
 go_enter Tryz.func108, Tryz.ntmps108
 go_wp2
 first | go_loopg [7] k (fun kq v7 w' => ∃ (x7_1 : Int), v7 = .int .i64 x7_1 ∧ Aside0 (manifest_near.l0 kq l0 (l0.length : Int) x7_1 = some r) ∧ Aside0 (kq ≤ k) ∧ Drawn0 w w') | (go_simp; go_loopg [7] k (fun kq v7 w' => ∃ (x7_1 : Int), v7 = .int .i64 x7_1 ∧ Aside0 (manifest_near.l0 kq l0 (l0.length : Int) x7_1 = some r) ∧ Aside0 (kq ≤ k) ∧ Drawn0 w w'))
 case atStart => exact ⟨(0), zb14, H', ⟨Nat.le_refl _⟩, by repeat (first | exact Drawn0.refl _ | apply Drawn0.step)⟩
 case round =>
  clear H'
  try clear c1
  obtain ⟨x7_1, rfl, HA, HK1, ⟨m1, rfl⟩⟩ := hrel
  cases gk with
  | zero => exact absurd HA.out (by simp [manifest_near.l0])
  | succ k1 =>
   have H := HA.out
   clear HA
   simp only [manifest_near.l0] at H
   by_cases c2 : x7_1 < (l0.length : Int)
   ·rw [if_pos c2] at H
    have c2b0 : decide (x7_1 < (l0.length : Int)) = true := decide_eq_true c2
    clear c2
    by_cases c3 : 0 ≤ x7_1
    ·rw [if_pos c3] at H
     have c3b0 : decide (0 ≤ x7_1) = true := decide_eq_true c3
     clear c3
     by_cases c4 : x7_1 < (l0.length : Int)
     ·rw [if_pos c4] at H
      have c4b0 : decide (x7_1 < (l0.length : Int)) = true := decide_eq_true c4
      clear c4
      by_cases c5 : (rd l0 x7_1) < 0
      ·rw [if_pos c5] at H
       have c5b0 : decide ((rd l0 x7_1) < 0) = true := decide_eq_true c5
       clear c5
       obtain rfl := Option.some.inj H
       have p101 : 0 ≤ (x7_1 : Int) := of_decide_eq_true zb5
       have q101 : x7_1 < (l0.length : Int) := of_decide_eq_true zb5
       obtain ⟨ad101, e101, hx101_0⟩ := Kd.at_int HR0.out x7_1 p101 q101
       cases e101
       replace p101 := eq_true p101
       replace q101 := eq_true q101
       go_wp2
       go_ret
       exact ⟨by first | rfl | (simp; done) | (simp [*]; done), by repeat (first | exact Drawn0.refl _ | apply Drawn0.step)⟩
      ·rw [if_neg c5] at H
       have c5b0 : decide ((rd l0 x7_1) < 0) = false := decide_eq_false c5
       clear c5
       by_cases c6 : (rd l0 x7_1) > 1099511627776
       ·rw [if_pos c6] at H
        have c6b0 : decide (1099511627776 < (rd l0 x7_1)) = true := decide_eq_true c6
        clear c6
        obtain rfl := Option.some.inj H
        have p101 : 0 ≤ (x7_1 : Int) := of_decide_eq_true zb5
        have q101 : x7_1 < (l0.length : Int) := of_decide_eq_true zb5
        obtain ⟨ad101, e101, hx101_0⟩ := Kd.at_int HR0.out x7_1 p101 q101
        cases e101
        replace p101 := eq_true p101
        replace q101 := eq_true q101
        go_wp2
        go_ret
        exact ⟨by first | rfl | (simp; done) | (simp [*]; done), by repeat (first | exact Drawn0.refl _ | apply Drawn0.step)⟩
       ·rw [if_neg c6] at H
        have c6b0 : decide (1099511627776 < (rd l0 x7_1)) = false := decide_eq_false c6
        clear c6
        have H' := Aside0.mk H
        clear H
        have p101 : 0 ≤ (x7_1 : Int) := of_decide_eq_true zb5
        have q101 : x7_1 < (l0.length : Int) := of_decide_eq_true zb5
        obtain ⟨ad101, e101, hx101_0⟩ := Kd.at_int HR0.out x7_1 p101 q101
        cases e101
        replace p101 := eq_true p101
        replace q101 := eq_true q101
        go_wp2
        go_roundg k1
        case measure => have := HK1.out; omega
        case rel => exact ⟨(wrap64 (x7_1 + 1)), zb14, H', ⟨by have := HK1.out; omega⟩, by repeat (first | exact Drawn0.refl _ | apply Drawn0.step)⟩
     ·rw [if_neg c4] at H
      exact absurd H zb35
    ·rw [if_neg c3] at H
     exact absurd H zb35
   ·rw [if_neg c2] at H
    have c2b0 : decide (x7_1 < (l0.length : Int)) = false := decide_eq_false c2
    clear c2
    obtain rfl := Option.some.inj H
    go_wp2
    go_ret
    exact ⟨by first | rfl | (simp; done) | (simp [*]; done), by repeat (first | exact Drawn0.refl _ | apply Drawn0.step)⟩
end Go.Proofs.YtfpbpakgajddnaaGreatDoor.P
/- Glob -/
namespace Go.Proofs.YtfpbpakgajddnaaGreatDoor.O
open Go.RowKit Go.Proofs.YtfpbpakgajddnaaGreatDoorW.PrintWords Go.Proofs.YtfpbpakgajddnaaGreatDoorW.PrintLast Go.Proofs.YtfpbpakgajddnaaGreatDoorW.PrintMore
set_option linter.unusedVariables false
set_option linter.unusedSimpArgs false
structure Glob (w : World) : Prop where
  pow : Lib.TabIs Tryz.prog w "internal/strconv.uint64pow10" .u64 Lib.pow10Tab
  mlen : ∃ m, w.var? Tryz.prog "internal/bytealg.MaxLen" = some #[.int .i64 m]
  syn : ∃ t p, w.var? Tryz.prog "strconv.ErrSyntax" = some #[.iface t p]
  rng : ∃ t p, w.var? Tryz.prog "strconv.ErrRange" = some #[.iface t p]
theorem gpow : Tryz.prog.globalNamed "internal/strconv.uint64pow10" = some 3 := by kernel_rfl
theorem gmlen : Tryz.prog.globalNamed "internal/bytealg.MaxLen" = some 2 := by kernel_rfl
theorem gsyn : Tryz.prog.globalNamed "strconv.ErrSyntax" = some 0 := by kernel_rfl
theorem grng : Tryz.prog.globalNamed "strconv.ErrRange" = some 1 := by kernel_rfl
theorem Glob.below {w w' : World} (h : Glob w) (hb : Below w.heap.size w w') : Glob w' := by
  obtain ⟨h1, ⟨m, h2⟩, ⟨t3, p3, h3⟩, ⟨t4, p4, h4⟩⟩ := h
  exact ⟨Joins.var_stays gpow h1 hb (Nat.le_refl _), ⟨m, Joins.var_stays gmlen h2 hb (Nat.le_refl _)⟩, ⟨t3, p3, Joins.var_stays gsyn h3 hb (Nat.le_refl _)⟩, ⟨t4, p4, Joins.var_stays grng h4 hb (Nat.le_refl _)⟩⟩
theorem Glob.cell {w : World} (h : Glob w) : ∃ m, w.cell? ⟨2, 0, none⟩ = some (.int .i64 m) := by
  obtain ⟨m, hm⟩ := h.mlen
  exact ⟨m, by have h0 := World.var?_cell gmlen hm 0; simpa using h0⟩
/-- An error of the library's: none, or some interface value. -/
def ErrIs : Option Int → Value → Prop
  | none, v => v = .nilIface
  | some _, v => ∃ t p, v = .iface t p
theorem ErrIs.none_ {v : Value} (h : ErrIs none v) : v = .nilIface := h
theorem ErrIs.some_ {c : Int} {v : Value} (h : ErrIs (some c) v) : ∃ t p, v = .iface t p := h
theorem below_bytes (w : World) (e : TypeId) (s : ByteArray) : Below w.heap.size w (Lib.bytesWorld w e s) :=
  ⟨rfl, rfl, rfl, by rw [Lib.bytesWorld_size]; omega, fun i hi => Lib.bytesWorld_at_old w e s i hi⟩
theorem below_grown_ (w : World) (k : Nat) (os : Array Obj) : Below w.heap.size w (Sort.grow (w.drewN k) os) :=
  ⟨rfl, rfl, rfl, by show w.heap.size ≤ (w.heap ++ os).size; rw [Array.size_append]; omega, fun j hj => by
    show (w.heap ++ os)[j]? = w.heap[j]?
    rw [Array.getElem?_append_left hj]⟩
theorem bt_getD (s : ByteArray) (k : Nat) (h : k < s.size) : ((s.data.toList.getD k 0).toNat : Int) = bt s k := by
  unfold bt
  have h2 : k < s.data.size := h
  simp [h, List.getD_eq_getElem?_getD]
  rfl
theorem ret_bool {a b : Bool} (h : a = b) : Ending.returned (.bool a) = .returned (.bool b) := by rw [h]
def strconv_Itoa.f (a0 : Int) : Option ByteArray := if -9223372036854775808 ≤ a0 ∧ a0 ≤ 9223372036854775807 then some ⟨(Lib.itoa a0).toArray⟩ else none
theorem strconv_Itoa.calls (a0 : Int) (r : ByteArray) (w : World) (hG : Glob w) (h : strconv_Itoa.f a0 = some r) :
  Calls Tryz.prog 107 #[.int .i64 a0] w fun e w' => e = .returned (.string r) ∧ Below w.heap.size w w' := by
 unfold strconv_Itoa.f at h
 split at h
 case isFalse => exact absurd h zb35
 rename_i hb
 obtain rfl := Option.some.inj h
 refine (Tryz.strconv_Itoa a0 hb.1 hb.2 w hG.pow).mono ?_
 rintro e w' ⟨rfl, k, os, rfl⟩
 exact ⟨rfl, below_grown_ _ k os⟩
def atoiF (l : List UInt8) : Int × Option Int := match Lib.atoiAll l with
  | .ok v => (v, none)
  | Lib.NumEnd.syntax => (0, some 0)
  | .range => (Lib.atoiSat l, some 1)
def strconv_Atoi.f (a0 : ByteArray) : Option (Int × Option Int) := if a0.size ≤ 281474976710656 then some (atoiF a0.data.toList) else none
theorem strconv_Atoi.calls (a0 : ByteArray) (r1 : Int) (r2 : Option Int) (w : World) (hG : Glob w) (h : strconv_Atoi.f a0 = some (r1, r2)) :
  Calls Tryz.prog 89 #[.string a0] w fun e w' => ∃ pv, ErrIs r2 pv ∧ e = .returned (.tuple #[.int .i64 r1, pv]) ∧ Below w.heap.size w w' := by
 unfold strconv_Atoi.f at h
 split at h
 case isFalse => exact absurd h zb35
 rename_i hb
 have h' := Option.some.inj h
 unfold atoiF at h'
 split at h'
 ·rename_i v hv
  obtain ⟨rfl, rfl⟩ := Prod.mk.inj h'
  refine (Tryz.strconv_Atoi_ok a0 zb13 v hv w).mono ?_
  rintro e w' ⟨rfl, rfl | ⟨t, rfl⟩⟩
  ·exact ⟨_, rfl, rfl, Below.refl _ _⟩
  ·exact ⟨_, rfl, rfl, below_bytes _ _ _⟩
 ·rename_i hv
  obtain ⟨rfl, rfl⟩ := Prod.mk.inj h'
  obtain ⟨t, p, hs⟩ := hG.syn
  refine (Tryz.strconv_Atoi_syntax_var a0 hb hv t p w hs).mono ?_
  rintro e w' ⟨n, rfl, _, _, hbel⟩
  exact ⟨_, ⟨_, _, rfl⟩, rfl, hbel⟩
 ·rename_i hv
  obtain ⟨rfl, rfl⟩ := Prod.mk.inj h'
  obtain ⟨t, p, hs⟩ := hG.rng
  refine (Tryz.strconv_Atoi_range_var a0 hb hv t p w hs).mono ?_
  rintro e w' ⟨n, rfl, _, _, hbel⟩
  exact ⟨_, ⟨_, _, rfl⟩, rfl, hbel⟩
theorem encs_map {α : Type} (enc : α → Value) (xs : List α) : encs enc xs = xs.map enc := by simp [encs]
/-- A row of strings that was just laid. -/
theorem row_new (w : World) (e : TypeId) (xs : List ByteArray) (n : Nat) (hn : xs.length = n) (hm : n ≤ 9223372036854775807) :
  Kd.R Kd.string e (w.alloc (.cells (xs.map Value.string).toArray e)) w.heap.size (fun _ => True) (.slice (some ⟨w.heap.size, 0, none⟩) n n) xs := by
 subst hn
 refine Kd.R_of_own ?_ (fun _ _ => trivial)
 rw [encs_map]
 have h2 := World.ownsRow_lit (base := w.heap.size) (e := e) (size := 1) w (xs.map Value.string).toArray xs.length (Nat.le_refl _) (by simpa [maxLen] using hm) zb35
 simpa using h2
def strings_Split.f (a0 a1 : ByteArray) : Option (List ByteArray) := if a0.size < 4294967281 ∧ 1 ≤ a1.size then some (Lib.splitB a1 0 (Lib.countB a0 a1) a0) else none
theorem strings_Split.calls (a0 a1 : ByteArray) (r : List ByteArray) (w : World) (hG : Glob w) (h : strings_Split.f a0 a1 = some r) :
  Calls Tryz.prog 88 #[.string a0, .string a1] w fun e w' => ∃ v0_ : Value, e = .returned v0_ ∧ Kd.R Kd.string 9 w' w.heap.size (fun _ => True) v0_ r ∧ Below w.heap.size w w' := by
 unfold strings_Split.f at h
 split at h
 case isFalse => exact absurd h zb35
 rename_i hb
 obtain rfl := Option.some.inj h
 obtain ⟨m, hm⟩ := hG.cell
 refine (Tryz.strings_Split a0 a1 m w hb.1 hm hb.2).mono ?_
 rintro e w' ⟨rfl, rfl⟩
 have hl := Lib.splitB_all a1 hb.2 0 _ a0 rfl
 have hc := Lib.countB_le a1 hb.2 a0.size a0 (Nat.le_refl _)
 exact ⟨_, rfl, row_new w _ _ _ hl zb13, below_alloc (Below.refl _ _) _⟩
def joinB (l : List ByteArray) (sep : ByteArray) : List UInt8 := Lib.join (l.map (·.data.toList)) sep.data.toList
def strings_Join.f (l0 : List ByteArray) (a1 : ByteArray) : Option ByteArray := if l0.length ≤ 140737488355328 ∧ (joinB l0 a1).length ≤ 140737488355328 then some ⟨(joinB l0 a1).toArray⟩ else none
theorem strings_Join.calls (A0 : Option Addr) (c0 : Nat) (l0 : List ByteArray) (a1 : ByteArray) (r : ByteArray) (w : World) (hr0 : Kd.C Kd.string w A0 l0.length l0) (hc0 : l0.length ≤ c0) (h : strings_Join.f l0 a1 = some r) :
  Calls Tryz.prog 140 #[.slice A0 l0.length c0, .string a1] w fun e w' => e = .returned (.string r) ∧ Below w.heap.size w w' := by
 unfold strings_Join.f at h
 split at h
 case isFalse => exact absurd h zb35
 rename_i hb
 obtain rfl := Option.some.inj h
 rcases Nat.eq_zero_or_pos l0.length with h0 | h0
 ·obtain rfl := List.eq_nil_of_length_eq_zero h0
  refine (Tryz.strings_Join_none A0 c0 a1 w).mono ?_
  rintro e w' ⟨rfl, rfl⟩
  exact ⟨rfl, Below.refl _ _⟩
 ·obtain ⟨h1, h2, h3⟩ := Kd.reads_of_C (enc := Value.string) (d := ByteArray.empty) (h1 := fun _ => rfl) hr0
  obtain ⟨ad, rfl, hc⟩ := h3 h0
  have hc0' := hc 0 h0
  have hsp : ad.spot = none := by
   cases hs : ad.spot with
   | none => rfl
   | some q =>
    exfalso
    rw [show ad.add 0 = ad from rfl] at hc0'
    unfold World.cell? at hc0'
    rw [hs] at hc0'
    split at hc0' <;> simp at hc0'
  obtain ⟨bk, o, sp⟩ := ad
  simp only at hsp
  subst hsp
  have hcell : ∀ (j : Nat) x, l0[j]? = some x → w.cell? ⟨bk, o + j, none⟩ = some (.string x) := by
   intro j x hx
   obtain ⟨hl, hx'⟩ := List.getElem?_eq_some_iff.1 hx
   have := hc j hl
   rw [show (⟨bk, o, none⟩ : Addr).add j = ⟨bk, o + j, none⟩ from by unfold Addr.add; split <;> simp_all] at this
   rw [this, List.getD_eq_getElem?_getD, hx]
   rfl
  have hbk : bk < w.heap.size := World.block_lt_of_cell? w _ (hcell 0 _ (List.getElem?_eq_getElem h0))
  exact Tryz.strings_Join bk o c0 l0 a1 w hcell hbk hb.1 hc0 hb.2
end Go.Proofs.YtfpbpakgajddnaaGreatDoor.O
/- Px7 -/
namespace Go.Proofs.YtfpbpakgajddnaaGreatDoor.P
open Go.Proofs.YtfpbpakgajddnaaGreatDoor.B
open Go.RowKit Go.Proofs.YtfpbpakgajddnaaGreatDoorW.PrintWords Go.Proofs.YtfpbpakgajddnaaGreatDoorW.PrintLast Go.Proofs.YtfpbpakgajddnaaGreatDoorW.PrintMore
attribute [local go_sem] run_store_float str_leq str_gtr str_geq max2_int min2_int max_two min_two max_three min_three max_four min_four
set_option linter.unusedVariables false
set_option linter.unusedSimpArgs false
open Go.Proofs.YtfpbpakgajddnaaGreatDoor.O
def manifest_line.l0 : Nat → List ByteArray → List Int → Int → Int → Option (ByteArray)
  | 0, _, _, _, _ => none
  | k + 1, x0, x7, x8, x9 => if x9 < x8 then (if 0 ≤ x9 then (if x9 < (x7.length : Int) then ((strconv_Itoa.f (rd x7 x9)).bind fun t103 => (if x0.length < 8796093022208 then (manifest_line.l0 k (x0 ++ [t103]) x7 x8 (wrap64 (x9 + 1))) else (none))) else (none)) else (none)) else ((strings_Join.f x0 (⟨#[32]⟩ : ByteArray)).bind fun t107 => (if t107.size + 1 ≤ 9223372036854775807 then (some (t107 ++ (⟨#[10]⟩ : ByteArray))) else (none)))
def manifest_line.f (k : Nat) (l0 : List ByteArray) (l1 : List Int) : Option (ByteArray) := manifest_line.l0 k l0 l1 (l1.length : Int) 0
set_option maxHeartbeats 8000000 in
set_option maxRecDepth 100000 in
theorem manifest_line.calls (k : Nat) (P0_ : Nat → Prop) (u9000_ : Value) (l0 : List ByteArray) (A1 : Option Addr) (c1 : Nat) (l1 : List Int) (r : ByteArray) (w0 w : World) (hB : Below w0.heap.size w0 w) (ho0 : Kd.R Kd.string 9 w w0.heap.size P0_ u9000_ l0) (hr1 : ∀ W_, Kept w W_ (fun k_ => P0_ k_) → Kd.C (Kd.int .i64) W_ A1 l1.length l1) (hc1 : l1.length ≤ c1) (hG : Glob w0) (h : manifest_line.f k l0 l1 = some r) :
  Calls Tryz.prog 110 #[u9000_, .slice A1 l1.length c1] w fun e w' => e = .returned (.string r) ∧ Below w0.heap.size w0 w' ∧ Kept w w' (fun k_ => P0_ k_) := by
 have HO0 := Aside0.mk (show Kd.R Kd.string 9 w w0.heap.size (fun k_ => (P0_ k_ ∨ w.heap.size ≤ k_)) u9000_ l0 from Kd.R_mono ho0 (fun k_ hk => (.inl hk)))
 have HR1 := Aside0.mk hr1
 have HC1 := Aside0.mk hc1
 clear hr1 hc1
 have HK := Aside0.mk (Kept.refl w (fun k_ => P0_ k_))
 have HW0 := Aside0.mk hB.size
 have HB := Aside0.mk hB
 clear hB
 have hGA := Aside0.mk hG
 clear hG
 have H : (manifest_line.l0 k l0 l1 (l1.length : Int) 0) = some r := h
 clear h
 have H' := Aside0.mk H
 clear H
 go_enter Tryz.func110, Tryz.ntmps110
 go_wp2
 first | go_loopg [0, 9] k (fun kq v0 v9 w' => ∃ (x0_1 : List ByteArray) (x9_1 : Int), v9 = .int .i64 x9_1 ∧ Aside0 (manifest_line.l0 kq x0_1 l1 (l1.length : Int) x9_1 = some r) ∧ Aside0 (kq ≤ k) ∧ Aside0 (Kd.R Kd.string 9 w' w0.heap.size (fun k_ => (P0_ k_ ∨ w.heap.size ≤ k_)) v0 x0_1) ∧ Aside0 (Kept w w' (fun k_ => P0_ k_)) ∧ Aside0 (Below w0.heap.size w0 w')) | (go_simp; go_loopg [0, 9] k (fun kq v0 v9 w' => ∃ (x0_1 : List ByteArray) (x9_1 : Int), v9 = .int .i64 x9_1 ∧ Aside0 (manifest_line.l0 kq x0_1 l1 (l1.length : Int) x9_1 = some r) ∧ Aside0 (kq ≤ k) ∧ Aside0 (Kd.R Kd.string 9 w' w0.heap.size (fun k_ => (P0_ k_ ∨ w.heap.size ≤ k_)) v0 x0_1) ∧ Aside0 (Kept w w' (fun k_ => P0_ k_)) ∧ Aside0 (Below w0.heap.size w0 w')))
 case atStart => exact ⟨(l0), (0), zb14, H', ⟨Nat.le_refl _⟩, ⟨by (with_reducible repeat (first | apply Kd.R_alloc | apply Kd.R_drewN | apply Kd.R_drew)); exact HO0.out⟩, ⟨by repeat (first | (with_reducible first | exact HK.out | apply Kept.alloc | apply Kept.drewN | apply Kept.drew) | exact HK.out)⟩, ⟨by repeat (first | (with_reducible first | exact HB.out | apply below_alloc | apply pw_below_drewN | apply below_drew1) | exact HB.out)⟩⟩
 case round =>
  clear H'
  try clear c1
  try clear p2
  obtain ⟨x0_1, x9_1, rfl, HA, HK1, HO_0, HK, HB⟩ := hrel
  cases gk with
  | zero => exact absurd HA.out (by simp [manifest_line.l0])
  | succ k1 =>
   have H := HA.out
   clear HA
   simp only [manifest_line.l0] at H
   by_cases c3 : x9_1 < (l1.length : Int)
   ·rw [if_pos c3] at H
    have c3b0 : decide (x9_1 < (l1.length : Int)) = true := decide_eq_true c3
    clear c3
    by_cases c4 : 0 ≤ x9_1
    ·rw [if_pos c4] at H
     have c4b0 : decide (0 ≤ x9_1) = true := decide_eq_true c4
     clear c4
     by_cases c5 : x9_1 < (l1.length : Int)
     ·rw [if_pos c5] at H
      have c5b0 : decide (x9_1 < (l1.length : Int)) = true := decide_eq_true c5
      clear c5
      replace H := Option.bind_eq_some_iff.mp H
      obtain ⟨t103, A60, H⟩ := H
      replace H : (if x0_1.length < 8796093022208 then (manifest_line.l0 k1 (x0_1 ++ [t103]) l1 (l1.length : Int) (wrap64 (x9_1 + 1))) else (none)) = some r := H
      have A6 := Aside0.mk A60
      clear A60
      by_cases c7 : x0_1.length < 8796093022208
      ·rw [if_pos c7] at H
       have LMc7 := Aside0.mk c7
       clear c7
       obtain ⟨y104, hy104⟩ : ∃ y_ : List ByteArray, y_ = (x0_1 ++ [t103]) := ⟨_, rfl⟩
       replace H : (manifest_line.l0 k1 y104 l1 (l1.length : Int) (wrap64 (x9_1 + 1))) = some r := by first | (rw [hy104]; with_reducible exact H) | (have H2_ := (Option.bind_some _ _).symm.trans H; rw [hy104]; with_reducible exact H2_) | (have H2_ := (Option.bind_some _ _).symm.trans H; with_reducible exact H2_) | with_reducible exact H | (rw [hy104]; exact H) | exact H
       have Ny104 := Aside0.mk hy104
       clear hy104
       have H' := Aside0.mk H
       clear H
       have p102 : 0 ≤ (x9_1 : Int) := of_decide_eq_true zb5
       have q102 : x9_1 < (l1.length : Int) := of_decide_eq_true zb5
       obtain ⟨ad102, e102, hx102_0⟩ := Kd.at_int (Kd.C_kept_now HR1.out HK.out) x9_1 p102 q102
       cases e102
       replace p102 := eq_true p102
       replace q102 := eq_true q102
       go_wp2_with (first | ((with_reducible refine gate_callee (f := 107) rfl ?_); refine goesL_ (some 15) rfl rfl Tryz.func107 zb10 rfl #[.int .i64 (rd l1 x9_1)] rfl zb3 ?_; (with_reducible refine (strconv_Itoa.calls (rd l1 x9_1) t103 _ ?side1 A6.out).mono ?_); (case side1 => exact Glob.below hGA.out zb1); rintro e w8 ⟨rfl, hb⟩; refine ⟨_, rfl, ?_⟩; have n0_ := Aside0.mk (Kd.R_below (by (with_reducible repeat (first | apply Kd.R_alloc | apply Kd.R_drewN | apply Kd.R_drew)); exact HO_0.out) hb); have n1_ := Aside0.mk (Kept.below (S := (fun k_ => P0_ k_)) zb42 hb); have n2_ := Aside0.mk (below_step zb1 hb); clear HO_0; clear HK; clear HB; have HO_0 := n0_; have HK := n1_; have HB := n2_; clear n0_ n1_ n2_; (try clear hb); (try clear hb2); (try clear hk); (try clear hi)) | ((with_reducible refine gate_builtin (b := .append) (xs := #[.tmp 13, .tmp 16]) rfl ?_); at_builtin; refine Kd.R_append Kd.string (w0 := w0) w0.heap.size rfl (.tmp 13) (.tmp 16) 41 9 (.string ⟨#[]⟩) 16 rfl Tryz.underlying41 info9 rfl zb25 zb13 u0 x0_1 t103 [.string t103] (fun k_ => (P0_ k_ ∨ w.heap.size ≤ k_)) (fun _ => False) rfl rfl ?aP (fun _ hk => hk.elim) ?aF ?aO ?aB ?aS ?aL ?_; (case aP => exact rfl); (case aB => exact zb1); (case aF => exact (fun k_ hk => (.inr (Nat.le_trans (by first | exact HK.out.1 | exact (show Kept w _ (fun k_ => P0_ k_) from by repeat (first | (with_reducible first | exact HK.out | apply Kept.alloc | apply Kept.drewN | apply Kept.drew) | exact HK.out)).1) hk)))); (case aO => exact (by (with_reducible repeat (first | apply Kd.R_alloc | apply Kd.R_drewN | apply Kd.R_drew)); exact HO_0.out)); (case aS => exact (below_size zb1)); (case aL => have := LMc7.out; omega); intro v105 w9 ho hb hg hat; rw [← Ny104.out] at ho; have n0_ := Aside0.mk (hb); have n1_ := Aside0.mk (Kept.of_grown (S := (fun k_ => P0_ k_)) hg zb42 (fun k_ e_ => (HO_0.out.1 k_ e_))); have n2_ := Aside0.mk (ho); clear HB; clear HK; clear HO_0; have HB := n0_; have HK := n1_; have HO106 := n2_; clear n0_ n1_ n2_; clear ho hb hg hat))
       go_roundg k1
       case measure => have := HK1.out; omega
       case rel => exact ⟨(y104), (wrap64 (x9_1 + 1)), zb14, H', ⟨by have := HK1.out; omega⟩, ⟨by (with_reducible repeat (first | apply Kd.R_alloc | apply Kd.R_drewN | apply Kd.R_drew)); exact HO106.out⟩, ⟨by repeat (first | (with_reducible first | exact HK.out | apply Kept.alloc | apply Kept.drewN | apply Kept.drew) | exact HK.out)⟩, ⟨by repeat (first | (with_reducible first | exact HB.out | apply below_alloc | apply pw_below_drewN | apply below_drew1) | exact HB.out)⟩⟩
      ·rw [if_neg c7] at H
       exact absurd H zb35
     ·rw [if_neg c5] at H
      exact absurd H zb35
    ·rw [if_neg c4] at H
     exact absurd H zb35
   ·rw [if_neg c3] at H
    have c3b0 : decide (x9_1 < (l1.length : Int)) = false := decide_eq_false c3
    clear c3
    replace H := Option.bind_eq_some_iff.mp H
    obtain ⟨t107, A100, H⟩ := H
    replace H : (if t107.size + 1 ≤ 9223372036854775807 then (some (t107 ++ (⟨#[10]⟩ : ByteArray))) else (none)) = some r := H
    have A10 := Aside0.mk A100
    clear A100
    by_cases c11 : t107.size + 1 ≤ 9223372036854775807
    ·rw [if_pos c11] at H
     have c11b0 := eq_true c11
     have c11b1 : decide (t107.size + 1 ≤ 9223372036854775807) = true := decide_eq_true c11
     try have c11b2 : (9223372036854775807 < t107.size + 1) = False := eq_false (Nat.not_lt.2 c11)
     obtain rfl := Option.some.inj H
     obtain ⟨Ao12, co12, eo12⟩ := Kd.R_slice HO_0.out
     subst eo12
     go_wp2_with (first | ((with_reducible refine gate_callee (f := 140) rfl ?_); refine goesL_ (some 20) rfl rfl Tryz.func140 zb10 rfl #[.slice Ao12 x0_1.length co12, .string (⟨#[32]⟩ : ByteArray)] rfl zb3 ?_; (with_reducible refine (strings_Join.calls _ _ x0_1 (⟨#[32]⟩ : ByteArray) t107 _ ?side1 ?side2 A10.out).mono ?_); (case side1 => repeat (first | exact (Kd.R_reads' HO_0.out).2.2 | (with_reducible refine Kd.C_alloc ?_ _) | (with_reducible refine Kd.C_drewN ?_ _) | (with_reducible refine Kd.C_drew ?_))); (case side2 => exact (Kd.R_reads' HO_0.out).2.1); rintro e w13 ⟨rfl, hb⟩; refine ⟨_, rfl, ?_⟩; have n0_ := Aside0.mk (Kd.R_below (by (with_reducible repeat (first | apply Kd.R_alloc | apply Kd.R_drewN | apply Kd.R_drew)); exact HO_0.out) hb); have n1_ := Aside0.mk (Kept.below (S := (fun k_ => P0_ k_)) zb42 hb); have n2_ := Aside0.mk (below_step zb1 hb); clear HO_0; clear HK; clear HB; have HO_0 := n0_; have HK := n1_; have HB := n2_; clear n0_ n1_ n2_; (try clear hb); (try clear hb2); (try clear hk); (try clear hi)))
     go_ret
     exact ⟨zb15, by repeat (first | (with_reducible first | exact HB.out | apply below_alloc | apply pw_below_drewN | apply below_drew1) | exact HB.out), by repeat (first | (with_reducible first | exact HK.out | apply Kept.alloc | apply Kept.drewN | apply Kept.drew) | exact HK.out)⟩
    ·rw [if_neg c11] at H
     exact absurd H zb35
end Go.Proofs.YtfpbpakgajddnaaGreatDoor.P
/- Oadler -/
namespace Go.Proofs.YtfpbpakgajddnaaGreatDoor.O
open Go.RowKit Go.Proofs.YtfpbpakgajddnaaGreatDoorW.PrintWords Go.Proofs.YtfpbpakgajddnaaGreatDoorW.PrintLast Go.Proofs.YtfpbpakgajddnaaGreatDoorW.PrintMore
set_option linter.unusedVariables false
set_option linter.unusedSimpArgs false
/-- The two numbers of the first k bytes. -/
def adS (s : ByteArray) : Nat → Int × Int
  | 0 => (1, 0)
  | k + 1 => (((adS s k).1 + bt s k) % 65521, ((adS s k).2 + ((adS s k).1 + bt s k) % 65521) % 65521)
theorem adS_bd (s : ByteArray) (k : Nat) : 0 ≤ (adS s k).1 ∧ (adS s k).1 < 65521 ∧ 0 ≤ (adS s k).2 ∧ (adS s k).2 < 65521 := by
 cases k with
 | zero => simp [adS]
 | succ k => simp only [adS]; omega
def adler_Sum.f (a0 : ByteArray) : Option Int := if a0.size ≤ 9223372036854775807 then some ((adS a0 a0.size).2 * 65536 + (adS a0 a0.size).1) else none
theorem ad_or (a b : Int) (ha : 0 ≤ a) (ha' : a < 65521) (hb : 0 ≤ b) (hb' : b < 65521) : Go.bits .or .u32 (b * 65536 % 4294967296) a = b * 65536 + a := by
 rw [show b * 65536 % 4294967296 = b * 65536 from by omega]
 exact bits_join .u32 32 zb25 (fun n h0 h1 => by rw [IntKind.wrap_u32]; omega) 16 _ _ zb13 zb13 zb13 ha zb13 zb13
theorem ad_or' (a b : Int) (ha : 0 ≤ a) (ha' : a < 65521) (hb : 0 ≤ b) (hb' : b < 65521) : Go.bits .or .u32 (b * 65536) a = b * 65536 + a := by
 have := ad_or a b ha ha' hb hb'
 rwa [show b * 65536 % 4294967296 = b * 65536 from by omega] at this
theorem ret_intA {k : IntKind} {a b : Int} (h : a = b) : Ending.returned (.int k a) = .returned (.int k b) := by rw [h]
theorem below_bytesA (w : World) (e : TypeId) (s : ByteArray) : Below w.heap.size w (Lib.bytesWorld w e s) :=
 ⟨rfl, rfl, rfl, by rw [Lib.bytesWorld_size]; omega, fun i hi => Lib.bytesWorld_at_old w e s i hi⟩
theorem bt_getDA (s : ByteArray) (k : Nat) (h : k < s.size) : ((s.data.toList.getD k 0).toNat : Int) = bt s k := by
 unfold bt
 have h2 : k < s.data.size := h
 simp [h, List.getD_eq_getElem?_getD, h2]
 rfl
set_option maxHeartbeats 1000000 in
theorem adler_Sum.calls (a0 : ByteArray) (r : Int) (w : World) (h : adler_Sum.f a0 = some r) :
  Calls Tryz.prog 94 #[.string a0] w fun e w' => e = .returned (.int .i64 r) ∧ Below w.heap.size w w' := by
 unfold adler_Sum.f at h
 split at h
 case isFalse => exact absurd h zb35
 rename_i hsz
 obtain rfl := Option.some.inj h
 clear h
 have hconv := Lib.run_convert_string_bytes (P := Tryz.prog) w 9 63 5 a0 Tryz.underlying9 Tryz.underlying63 Tryz.underlying5
 have hb := Lib.hid (below_bytesA w 5 a0)
 have hcell := Lib.hid (fun j hj => Lib.bytesWorld_cell w 5 a0 j hj)
 generalize Lib.bytesWorld w 5 a0 = w1 at *
 generalize grownCap w a0.size 0 5 = cap at *
 go_enter Tryz.func94, Tryz.ntmps94
 go_wp2
 go_loop [3, 4, 10] (fun a b i => ∃ k : Nat, k ≤ a0.size ∧ i = .int .i64 k ∧ a = .int .u32 (adS a0 k).1 ∧ b = .int .u32 (adS a0 k).2) (fun _ _ i => a0.size - (intOf i).toNat)
 case atStart => exact ⟨0, Nat.zero_le _, rfl, rfl, rfl⟩
 case round =>
  obtain ⟨k, hk, rfl, rfl, rfl⟩ := hrel
  obtain ⟨h1, h2, h3, h4⟩ := adS_bd a0 k
  by_cases hlt : k < a0.size
  ·have hc : w1.cell? ⟨w.heap.size, k, none⟩ = some (.int .u8 (bt a0 k)) := by rw [hcell.out k hlt, bt_getDA a0 k hlt]
   obtain ⟨q1, q2⟩ := bt_range a0 k
   have HS : Hid (adS a0 (k + 1) = (((adS a0 k).1 + bt a0 k) % 65521, ((adS a0 k).2 + ((adS a0 k).1 + bt a0 k) % 65521) % 65521)) := Lib.hid rfl
   generalize bt a0 k = c at *
   generalize (adS a0 k).1 = p at *
   generalize (adS a0 k).2 = q at *
   go_wp2
   go_round
   case rel => exact ⟨k + 1, by omega, by go_num, by rw [HS.out], by rw [HS.out]⟩
   case measure => simp [intOf]; omega
  ·obtain rfl : k = a0.size := by omega
   have HO := Lib.hid (ad_or _ _ h1 h2 h3 h4)
   have HO' := Lib.hid (ad_or' _ _ h1 h2 h3 h4)
   have HW := Lib.hid (show wrap64 ((adS a0 a0.size).2 * 65536 + (adS a0 a0.size).1) = (adS a0 a0.size).2 * 65536 + (adS a0 a0.size).1 from by unfold wrap64; omega)
   go_wp2
   go_ret
   exact ⟨ret_intA (by first | (simp only [HO.out, HW.out]; done) | (simp only [HO'.out, HW.out]; done) | (show wrap64 _ = _; first | rw [HO.out, HW.out] | rw [HO'.out, HW.out])), hb.out⟩
end Go.Proofs.YtfpbpakgajddnaaGreatDoor.O
/- Obld -/
namespace Go.Proofs.YtfpbpakgajddnaaGreatDoor.O
open Go.RowKit Go.Proofs.YtfpbpakgajddnaaGreatDoorW.PrintWords Go.Proofs.YtfpbpakgajddnaaGreatDoorW.PrintLast Go.Proofs.YtfpbpakgajddnaaGreatDoorW.PrintMore Go.Proofs.YtfpbpakgajddnaaGreatDoor.P Go.Proofs.YtfpbpakgajddnaaGreatDoor.B
set_option linter.unusedVariables false
set_option linter.unusedSimpArgs false
theorem cells_len (s : ByteArray) : (Lib.byteCells s.data.toList).length = s.size := by rw [Lib.byteCells_length, data_length]
theorem cells_append (s t : ByteArray) : Lib.byteCells s.data.toList ++ Lib.strCells t = Lib.byteCells (s ++ t).data.toList := by
 simp [Lib.byteCells, Lib.strCells, ByteArray.data_append]
def Builder_WriteString.f (s0 a1 : ByteArray) : Option (Int × Option Int × ByteArray) := if s0.size + a1.size ≤ 140737488355328 then some ((a1.size : Int), none, s0 ++ a1) else none
theorem Builder_WriteString.calls (g : Nat) (s0_0 : ByteArray) (a1 : ByteArray) (r1 : Int) (r2 : Option Int) (r3 : ByteArray) (w0 w : World) (hI : IsS152 w0 w g s0_0) (hB : Below w0.heap.size w0 w) (h : Builder_WriteString.f s0_0 a1 = some (r1, r2, r3)) :
  Calls Tryz.prog 109 #[.pointer (some ⟨g, 0, none⟩), .string a1] w fun e w' => e = .returned (.tuple #[.int .i64 r1, errW r2]) ∧ IsS152 w0 w' g r3 ∧ Below w0.heap.size w0 w' ∧ KeepB 5 w w' g := by
 unfold Builder_WriteString.f at h
 split at h
 case isFalse => exact absurd h zb35
 rename_i hb
 obtain ⟨rfl, rfl, rfl⟩ : (a1.size : Int) = r1 ∧ none = r2 ∧ s0_0 ++ a1 = r3 := by simpa using h
 refine (Tryz.Builder_WriteString_k w0.heap.size g _ a1 w hI (by rw [cells_len]; exact hb) hB.size).mono ?_
 rintro e w' ⟨rfl, h1, h2, h3⟩
 rw [cells_append] at h1
 exact ⟨rfl, .inr h1, hB.trans h2, ⟨h3⟩⟩
def Builder_String.f (s0 : ByteArray) : Option (ByteArray × ByteArray) := some (s0, s0)
theorem Builder_String.calls (g : Nat) (s0_0 : ByteArray) (r1 : ByteArray) (r2 : ByteArray) (w0 w : World) (hI : IsS152 w0 w g s0_0) (hB : Below w0.heap.size w0 w) (h : Builder_String.f s0_0 = some (r1, r2)) :
  Calls Tryz.prog 112 #[.pointer (some ⟨g, 0, none⟩)] w fun e w' => e = .returned (.string r1) ∧ IsS152 w0 w' g r2 ∧ Below w0.heap.size w0 w' ∧ KeepB 5 w w' g := by
 obtain ⟨rfl, rfl⟩ : s0_0 = r1 ∧ s0_0 = r2 := by simpa [Builder_String.f] using h
 refine (Tryz.Builder_String_any_k w0.heap.size g s0_0.data.toList w hI hB.size).mono ?_
 rintro e w' ⟨rfl, h1, h2, h3⟩
 exact ⟨rfl, h1, hB.trans h2, ⟨h3⟩⟩
end Go.Proofs.YtfpbpakgajddnaaGreatDoor.O
/- Oman -/
namespace Go.Proofs.YtfpbpakgajddnaaGreatDoor.O
open Go.RowKit Go.Proofs.YtfpbpakgajddnaaGreatDoorW.PrintWords Go.Proofs.YtfpbpakgajddnaaGreatDoorW.PrintLast Go.Proofs.YtfpbpakgajddnaaGreatDoorW.PrintMore
set_option linter.unusedVariables false
set_option linter.unusedSimpArgs false
/-- Is a rune none of a name's? -/
def oddP (x : Nat) : Bool := !(decide (48 ≤ x) && decide (x ≤ 57) || decide (97 ≤ x) && decide (x ≤ 122) || x == 46 || x == 45)
theorem odd_pred (w : World) : PredAt Tryz.prog 141 #[] encR oddP w := fun W x _ => by
 unfold FnGives
 have z : ∀ (q : Bool), oddP x = q → Calls Tryz.prog 141 #[.int .i32 (x : Int)] W fun e w' => e = .returned (.bool q) ∧ ∃ m, w' = W.drewN m := by
  intro q hq
  by_cases h1 : (48 : Int) ≤ x <;> by_cases h2 : (x : Int) ≤ 57 <;> by_cases h3 : (97 : Int) ≤ x <;> by_cases h4 : (x : Int) ≤ 122 <;> by_cases h5 : (x : Int) = 46 <;> by_cases h6 : (x : Int) = 45
  all_goals first | (exfalso; omega) | skip
  all_goals
   have e1 : oddP x = !(decide ((48 : Int) ≤ x) && decide ((x : Int) ≤ 57) || decide ((97 : Int) ≤ x) && decide ((x : Int) ≤ 122) || ((x : Int) == 46) || ((x : Int) == 45)) := by
    unfold oddP
    congr 1
    rw [show decide (48 ≤ x) = decide ((48 : Int) ≤ x) from by congr 1; exact propext zb13, show decide (x ≤ 57) = decide ((x : Int) ≤ 57) from by congr 1; exact propext zb13, show decide (97 ≤ x) = decide ((97 : Int) ≤ x) from by congr 1; exact propext zb13, show decide (x ≤ 122) = decide ((x : Int) ≤ 122) from by congr 1; exact propext zb13, show (x == 46) = ((x : Int) == 46) from by rw [Bool.eq_iff_iff]; simp; omega, show (x == 45) = ((x : Int) == 45) from by rw [Bool.eq_iff_iff]; simp; omega]
   have e2 := Lib.hid (e1.symm.trans hq)
   clear e1 hq
   go_enter Tryz.func141, Tryz.ntmps141
   go_wp2
   go_ret
   refine ⟨ret_bool ?_, 0, rfl⟩
   rw [← e2.out]
   first | (simp [h1, h2, h3, h4, h5, h6]; done) | (rw [Bool.eq_iff_iff]; simp; omega)
 exact z _ rfl
def manifest_name.f (a0 : ByteArray) : Option Bool := some (if a0.size = 0 then false else if 32 < a0.size then false else !(decide (0 ≤ Lib.idxFunc oddP true a0)))
theorem manifest_name.calls (a0 : ByteArray) (r : Bool) (w : World) (h : manifest_name.f a0 = some r) :
  Calls Tryz.prog 111 #[.string a0] w fun e w' => e = .returned (.bool r) ∧ Below w.heap.size w w' := by
 obtain rfl := Option.some.inj h
 clear h
 have hC := Tryz.strings_ContainsFunc 141 #[] (enters_of Tryz.func141 zb10 rfl) oddP a0 w (odd_pred w)
 have HC := Lib.hid hC
 clear hC
 by_cases h0 : a0.size = 0
 ·obtain rfl : a0 = ByteArray.empty := ByteArray.size_eq_zero_iff.1 h0
  rw [if_pos h0]
  clear HC
  go_enter Tryz.func111, Tryz.ntmps111
  go_wp2
  go_ret
  exact ⟨rfl, Below.refl _ _⟩
 ·rw [if_neg h0]
  have hne : a0.toList ≠ [] := by
   intro h
   apply h0
   have h2 := congrArg List.length h
   rw [ByteArray.toList_eq, data_length] at h2
   simpa using h2
  have hb0 : (a0.toList == []) = false := by simpa using hne
  have hb1 : (a0.toList != []) = true := by simpa using hne
  by_cases h1 : 32 < a0.size
  ·rw [if_pos h1]
   have h1' : ¬ ((a0.size : Int) ≤ 32) := by omega
   have h1b : decide ((a0.size : Int) ≤ 32) = false := decide_eq_false h1'
   have h1c : decide (a0.size ≤ 32) = false := decide_eq_false zb13
   clear HC h0
   go_enter Tryz.func111, Tryz.ntmps111
   go_wp2
   go_ret
   exact ⟨rfl, Below.refl _ _⟩
  ·rw [if_neg h1]
   have h1' : (a0.size : Int) ≤ 32 := by omega
   have h1b : decide ((a0.size : Int) ≤ 32) = true := decide_eq_true h1'
   have h1c : decide (a0.size ≤ 32) = true := decide_eq_true zb13
   clear h0
   generalize decide (0 ≤ Lib.idxFunc oddP true a0) = q at *
   go_enter Tryz.func111, Tryz.ntmps111
   go_wp2_with (go_at_call 74; refine HC.out.mono ?_; rintro e w' ⟨rfl, hb⟩)
   go_ret
   exact ⟨rfl, hb⟩
end Go.Proofs.YtfpbpakgajddnaaGreatDoor.O
