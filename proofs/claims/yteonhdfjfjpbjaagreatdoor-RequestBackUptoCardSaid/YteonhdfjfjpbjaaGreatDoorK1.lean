/- Texts of this seat, joined: lemmas and walks that its statements' proofs use. -/
import Derived.Test.YteonhdfjfjpbjaaGreatDoorProg
import Derived.Below
import Derived.Deep.Draws
import Derived.Deep.AppendLies
import Derived.Maps.AppendAt
import Derived.OwnWalk
import Derived.Laws.BytesArg
import Derived.Laws.MakeOwn
import Derived.Laws.OwnMore
import Derived.Deep.OwnRows
import Derived.Tactics
import Derived.Lib.ConvBytes
import Derived.Laws.Slices
import Derived.WalkKit
import Derived.KernelRfl
import Derived.RowKit3
import Derived.Deep.LoopGhost
import Derived.Deep.QuietTactic
import Derived.BigQuiet
import Derived.WideLaws
import Derived.Deep.DeepCutAuto
import Derived.Deep.CutBlock
import Derived.Deep.RegionHeld3
import Derived.Laws.Rows
import Derived.Lib.AppendStr
import Derived.ArgAppend
import Derived.Laws.IdiomCopy
import Derived.OrdersHeld
import Derived.Laws.BitsLemmas
import Derived.RowKit
import Derived.WalkMore
import Derived.Test.YteonhdfjfjpbjaaGreatDoorK0
import Derived.BigRegion
import Derived.Deep.SlicePairs
import Derived.Deep.Slices
import Derived.Ground.GgwProg
import Derived.HandedShaped
import Derived.LaidLaws
import Derived.Laws.RangeAny
import Derived.Laws.StructEq
import Derived.Lib.AtoiAllCases
import Derived.Lib.Hide
import Derived.Lib.IndexMore
import Derived.Lib.ItoaNum
import Derived.Lib.LaidTab
import Derived.Lib.LaidU8
import Derived.Lib.OthersKept
import Derived.Lib.SlTrimSet
import Derived.Lib.SmallJoins
import Derived.Lib.SplitLaws
import Derived.Lib.TrailingZeros
import Derived.LoopIn
import Derived.LoopN
import Derived.LoopNIn
import Derived.MakeChecks
import Derived.OwnWalkIn
import Derived.ProofKit
import Derived.RangeFuncBound
import Derived.RangeFuncCalls
import Derived.RangeFuncLeaves
import Derived.RangeFuncNested
import Derived.Shelf.Abstract
import Derived.Shelf.GgClosure.StringsIndexFunc
import Derived.Shelf.GgClosure.StringsIndexFuncTop
import Derived.Shelf.LaysC
import Derived.Shelf.LaysM
import Derived.Shelf.RegionOpen
import Derived.Shelf.Small.Strs
import Derived.Shelf.Small.Utf8
import Derived.Shelf.Strconv.Atoi
import Derived.Shelf.Strconv.AtoiAll
import Derived.Shelf.Strconv.AtoiErrFast
import Derived.Shelf.Strconv.AtoiFail
import Derived.Shelf.Strconv.AtoiInnerAll
import Derived.Shelf.Strconv.AtoiLong
import Derived.Shelf.Strconv.Clone
import Derived.Shelf.Strconv.ErrVarAll
import Derived.Shelf.Strconv.Itoa0
import Derived.Shelf.Strconv.Lower
import Derived.Shelf.Strconv.ParseInt10
import Derived.Shelf.Strconv.ParseIntEmpty
import Derived.Shelf.Strconv.ParseUint10
import Derived.Shelf.Strconv.ParseUint10Any
import Derived.Shelf.Strconv.ParseUint10Empty
import Derived.Shelf.Strconv.RangeError
import Derived.Shelf.Strconv.SyntaxError
import Derived.Shelf.Strconv.ToError
import Derived.Shelf.Strconv.ToErrorRange
import Derived.Shelf.Strings.AsciiSet
import Derived.Shelf.Strings.Builder1
import Derived.Shelf.Strings.Builder2
import Derived.Shelf.Strings.BuilderF
import Derived.Shelf.Strings.BuilderK
import Derived.Shelf.Strings.Count
import Derived.Shelf.Strings.Cut
import Derived.Shelf.Strings.OnBuilder
import Derived.Shelf.Strings.Prefix
import Derived.Shelf.Strings.Runes
import Derived.Shelf.Strings.Search1
import Derived.Shelf.Strings.Search2
import Derived.Shelf.Strings.Search3
import Derived.Shelf.Strings.Shaped
import Derived.Shelf.Strings.SlTrimAscii
import Derived.Shelf.Strings.Split
import Derived.Shelf.Strings.Trim
import Derived.Shelf.Unicode.DecodeSlow
import Derived.TacticsInMore
/- Px0 -/
namespace Go.Proofs.YteonhdfjfjpbjaaGreatDoor.P
open Go.Proofs.YteonhdfjfjpbjaaGreatDoor.B
open Go.RowKit Go.Proofs.YteonhdfjfjpbjaaGreatDoorW.PrintWords Go.Proofs.YteonhdfjfjpbjaaGreatDoorW.PrintLast Go.Proofs.YteonhdfjfjpbjaaGreatDoorW.PrintMore
attribute [local go_sem] str_leq str_gtr str_geq max2_int min2_int max_two min_two max_three min_three max_four min_four
set_option linter.unusedVariables false
set_option linter.unusedSimpArgs false
def errW : Option Int → Value
  | none => .nilIface
  | some c => .iface 0 (.int .i64 c)
theorem errW_none : errW none = .nilIface := rfl
theorem errW_some (c : Int) : errW (some c) = .iface 0 (.int .i64 c) := rfl
theorem info5 : (Tryz.prog.info? 5).map (fun i => (i.zero, i.size, i.bytes)) = some (some (.int .u8 0), 1, 1) := by kernel_rfl
theorem info9 : (Tryz.prog.info? 9).map (fun i => (i.zero, i.size, i.bytes)) = some (some (.string ⟨#[]⟩), 1, 16) := by kernel_rfl
theorem info49 : (Tryz.prog.info? 49).map (fun i => (i.zero, i.size, i.bytes)) = some (some (.agg #[(.string ⟨#[]⟩), (.string ⟨#[]⟩)]), 2, 32) := by kernel_rfl
-- the values' own types
structure S49 where
  f0 : ByteArray
  f1 : ByteArray
def z49 : S49 := ⟨(⟨#[]⟩ : ByteArray), (⟨#[]⟩ : ByteArray)⟩
def k49 : Kd S49 := Kd.iso (Kd.pair Kd.string Kd.string) (fun x : S49 => (x.f0, x.f1))
theorem k49_open {w : World} {x : S49} {cs : List Value} (h : k49.K w x cs) : cs = [.string x.f0, .string x.f1] := by
  obtain ⟨_, _, rfl, rfl, rfl⟩ := h
  exact rfl
theorem k49_mk (w : World) (x : S49)  : k49.K w x [.string x.f0, .string x.f1] := ⟨[.string x.f0], [.string x.f1], rfl, rfl, rfl⟩
theorem k49_mkM (w : World) (base : Nat) (ok : Nat → Prop) (x : S49)  : k49.M w base ok x [.string x.f0, .string x.f1] := ⟨[.string x.f0], [.string x.f1], rfl, rfl, rfl⟩
def rd_T49 (xs : List S49) (i : Int) : S49 := xs.getD i.toNat z49
theorem at_T49 {w : World} {A : Option Addr} {n : Nat} {xs : List S49} (h : Kd.C k49 w A n xs) (i : Int) (h0 : 0 ≤ i) (h1 : i < n) : ∃ ad , A = some ad ∧ w.cell? (ad.add (i.toNat * 2)) = some (.string (rd_T49 xs i).f0) ∧ w.cell? ⟨(ad.add (i.toNat * 2)).block, (ad.add (i.toNat * 2)).off + 1, none⟩ = some (.string (rd_T49 xs i).f1) := by
  obtain ⟨ad, c, e, _, hK, hc0⟩ := Kd.C_get h z49 i h0 h1
  have hc : ∀ j u, c[j]? = some u → w.cell? (ad.add (i.toNat * 2 + j)) = some u := hc0
  obtain rfl := k49_open hK
  exact ⟨ad, e, hc 0 _ rfl, by rw [← add_field _ _ 1 (by omega)]; exact hc 1 _ rfl⟩
structure S36 where
  f0 : ByteArray
  f1 : ByteArray
  f2 : (List S49)
  f3 : ByteArray
/-- A strings.Builder at block g that holds f0. -/
def IsS54 (w0 W : World) (g : Nat) (f0 : ByteArray) : Prop := Bld 54 5 w0 W g f0
theorem IsS54.new {w0 W : World} {g : Nat} (hb : W.heap[g]? = some (.cells #[.pointer none, .slice none 0 0] 54 (0, 0))) (hg : w0.heap.size ≤ g) : IsS54 w0 W g ⟨#[]⟩ := .inl ⟨hg, .slice none 0 0, hb, ⟨by simp [Lib.byteCells], .inl ⟨rfl, by simp [Lib.byteCells]⟩⟩, by simp [Value.ownBlock]⟩
theorem IsS54.below {w0 W : World} {g : Nat} {f0 : ByteArray} {W1 : World} (h : IsS54 w0 W g f0) (hw : Below W.heap.size W W1) : IsS54 w0 W1 g f0 := Bld.below h hw
theorem IsS54.grown {w0 W : World} {g : Nat} {f0 : ByteArray} {W1 : World} {row : Option Nat} (h : IsS54 w0 W g f0) (hw : W.grownBy W1 row) (hne : ∀ k, row = some k → k ≠ g ∧ ∀ c fz, W.heap[k]? ≠ some (.cells c 5 fz)) : IsS54 w0 W1 g f0 := Bld.grown h hw hne
theorem IsS54.kept {w0 W : World} {g : Nat} {f0 : ByteArray} {W1 : World} {S : Nat → Prop} (h : IsS54 w0 W g f0) (hk : Kept W W1 S) (hne : ∀ k, S k → k ≠ g ∧ ∀ c fz, W.heap[k]? ≠ some (.cells c 5 fz)) : IsS54 w0 W1 g f0 := Bld.kept h hk.2 hne
theorem IsS54.alloc {w0 W : World} {g : Nat} {f0 : ByteArray} (h : IsS54 w0 W g f0) (o : Obj) : IsS54 w0 (W.alloc o) g f0 := Bld.below h (below_alloc (Below.refl _ _) o)
theorem IsS54.drewN {w0 W : World} {g : Nat} {f0 : ByteArray} (h : IsS54 w0 W g f0) (m : Nat) : IsS54 w0 (W.drewN m) g f0 := h
theorem IsS54.drew {w0 W : World} {g : Nat} {f0 : ByteArray} (h : IsS54 w0 W g f0) : IsS54 w0 W.drew g f0 := h
theorem IsS54.apart {w0 W : World} {g : Nat} {f0 : ByteArray} {α : Type} {d : Kd α} {e : Nat} {base : Nat} {ok : Nat → Prop} {v : Value} {xs : List α} (h : IsS54 w0 W g f0) (ho : d.R e W base ok v xs) (ht : ∀ q, q ∈ e :: d.E → q ≠ 54) : d.R e W base (fun k => ok k ∧ k ≠ g) v xs := by
  obtain ⟨_, hb⟩ := Bld.blk h
  exact Kd.R_types ho hb ht
theorem IsS54.own_ne {w0 W : World} {g : Nat} {f0 : ByteArray} {α : Type} {d : Kd α} {e : Nat} {base : Nat} {ok : Nat → Prop} {v : Value} {xs : List α} (h : IsS54 w0 W g f0) (ho : d.R e W base ok v xs) (ht : e ≠ 54) : some g ≠ v.ownBlock := by
  obtain ⟨_, hb⟩ := Bld.blk h
  exact Kd.R_ne ho hb ht
theorem IsS54.own_far {w0 W : World} {g : Nat} {f0 : ByteArray} {α : Type} {d : Kd α} {e : Nat} {base : Nat} {ok : Nat → Prop} {v : Value} {xs : List α} (h : IsS54 w0 W g f0) (ho : d.R e W base ok v xs) (ht : e ≠ 54 ∧ e ≠ 5) : ∀ k, v.ownBlock = some k → k ≠ g ∧ ∀ c fz, W.heap[k]? ≠ some (.cells c 5 fz) := by
  obtain ⟨inner, hi⟩ := Kd.R_own ho
  exact typed_far (Bld.blk h) hi ht.1 ht.2
theorem IsS54.lt {w0 W : World} {g : Nat} {f0 : ByteArray} (h : IsS54 w0 W g f0) : g < W.heap.size := Bld.lt h
theorem IsS54.ge {w0 W : World} {g : Nat} {f0 : ByteArray} (h : IsS54 w0 W g f0) : w0.heap.size ≤ g := Bld.ge h
theorem IsS54.farB {w0 W : World} {g : Nat} {f0 : ByteArray} {p : Addr} (h : IsS54 w0 W g f0) (hne : g ≠ p.block) {t : Nat} (ht : ∃ c fz, W.heap[p.block]? = some (.cells c t fz)) (hte : t ≠ 5) (u : Value) : IsS54 w0 (W.setCell p u) g f0 := Bld.farB h hne ht hte u
/-- A state of type 90 at block g of W; what its slices lead to came in by w0. -/
def IsS90 (w0 W : World) (g : Nat) (f0 : ByteArray) : Prop := W.heap[g]? = some (.cells #[.string f0] 90 (0, 0)) ∧ w0.heap.size ≤ g
theorem IsS90.grown {w0 W : World} {g : Nat} {f0 : ByteArray} {W1 : World} {row : Option Nat} (h : IsS90 w0 W g f0) (hw : W.grownBy W1 row) (hne : some g ≠ row) : IsS90 w0 W1 g f0 := by
  obtain ⟨hb, hg⟩ := h
  exact ⟨blk_grown hb hw hne, hg⟩
theorem IsS90.kept {w0 W : World} {g : Nat} {f0 : ByteArray} {W1 : World} {S : Nat → Prop} (h : IsS90 w0 W g f0) (hk : Kept W W1 S) (hne : ¬ S g) : IsS90 w0 W1 g f0 := by
  obtain ⟨hb, hg⟩ := h
  exact ⟨blk_kept hb hk hne, hg⟩
theorem IsS90.below {w0 W : World} {g : Nat} {f0 : ByteArray} {W1 : World} (h : IsS90 w0 W g f0) (hw : Below W.heap.size W W1) : IsS90 w0 W1 g f0 := h.grown (grown_of_below hw none) (by simp)
theorem IsS90.alloc {w0 W : World} {g : Nat} {f0 : ByteArray} (h : IsS90 w0 W g f0) (o : Obj) : IsS90 w0 (W.alloc o) g f0 := h.below (below_alloc (Below.refl _ _) o)
theorem IsS90.drewN {w0 W : World} {g : Nat} {f0 : ByteArray} (h : IsS90 w0 W g f0) (m : Nat) : IsS90 w0 (W.drewN m) g f0 := h
theorem IsS90.drew {w0 W : World} {g : Nat} {f0 : ByteArray} (h : IsS90 w0 W g f0) : IsS90 w0 W.drew g f0 := h
theorem IsS90.apart {w0 W : World} {g : Nat} {f0 : ByteArray} {α : Type} {d : Kd α} {e : Nat} {base : Nat} {ok : Nat → Prop} {v : Value} {xs : List α} (h : IsS90 w0 W g f0) (ho : d.R e W base ok v xs) (ht : ∀ q, q ∈ e :: d.E → q ≠ 90) : d.R e W base (fun k => ok k ∧ k ≠ g) v xs := by
  obtain ⟨hb, hg⟩ := h
  exact Kd.R_types ho hb ht
theorem IsS90.own_ne {w0 W : World} {g : Nat} {f0 : ByteArray} {α : Type} {d : Kd α} {e : Nat} {base : Nat} {ok : Nat → Prop} {v : Value} {xs : List α} (h : IsS90 w0 W g f0) (ho : d.R e W base ok v xs) (ht : e ≠ 90) : some g ≠ v.ownBlock := by
  obtain ⟨hb, hg⟩ := h
  exact Kd.R_ne ho hb ht
theorem IsS90.lt {w0 W : World} {g : Nat} {f0 : ByteArray} (h : IsS90 w0 W g f0) : g < W.heap.size := by
  obtain ⟨hb, hg⟩ := h
  exact blk_lt hb
theorem IsS90.ge {w0 W : World} {g : Nat} {f0 : ByteArray} (h : IsS90 w0 W g f0) : w0.heap.size ≤ g := by
  obtain ⟨hb, hg⟩ := h
  exact hg
theorem IsS90.far {w0 W : World} {g : Nat} {f0 : ByteArray} {p : Addr} (h : IsS90 w0 W g f0) (hne : g ≠ p.block) (u : Value) : IsS90 w0 (W.setCell p u) g f0 := by
  obtain ⟨hb, hg⟩ := h
  exact ⟨blk_far hb hne u, hg⟩
theorem cellS90_0 {W : World} {g : Nat} {f0 : ByteArray} (h : W.heap[g]? = some (.cells #[.string f0] 90 (0, 0))) : W.cell? ⟨g, 0, none⟩ = some (.string f0) := (blk_cell h 0).trans rfl
theorem IsS90.set_0 {w0 W : World} {g : Nat} {f0 : ByteArray} (h : IsS90 w0 W g f0) (x : ByteArray) : IsS90 w0 (W.setCell ⟨g, 0, none⟩ (.string x)) g x := by
  obtain ⟨hb, hg⟩ := h
  exact ⟨by simpa using blk_set hb 0 (.string x), hg⟩
theorem IsS90.new (w0 W : World) (f0 : ByteArray) (hB : Below w0.heap.size w0 W) : IsS90 w0 (W.alloc (.cells #[.string f0] 90)) W.heap.size f0 := ⟨by simpa using heap_alloc_new W _, hB.size⟩
theorem IsS90.own_far {w0 W : World} {g : Nat} {f0 : ByteArray} {α : Type} {d : Kd α} {e : Nat} {base : Nat} {ok : Nat → Prop} {v : Value} {xs : List α} (h : IsS90 w0 W g f0) (ho : d.R e W base ok v xs) (ht : e ≠ 90) : some g ≠ v.ownBlock := IsS90.own_ne h ho ht
end Go.Proofs.YteonhdfjfjpbjaaGreatDoor.P
/- Ab -/
namespace Go.Proofs.YteonhdfjfjpbjaaGreatDoor
theorem zb0 {P : Prop} (h : P := by repeat (first | (with_reducible first | exact HB.out | apply below_alloc | apply pw_below_drewN | apply below_drew1) | exact HB.out)) : P := h
theorem zb1 {P : Prop} (h : P := by (try simp only [List.map_toArray, List.map_cons, List.map_nil]); first | done | rfl | (simp only [List.length_drop, List.length_take]; rfl)) : P := h
theorem zb2 {P : Prop} (h : P := by first | (with_reducible assumption) | assumption) : P := h
theorem zb3 {P : Prop} (h : P := by repeat (first | (with_reducible first | exact HB.out | apply below_alloc | apply pw_below_drewN | apply below_drew1 | refine below_set ?_ (IsS54.ge HI154.out)) | exact HB.out)) : P := h
theorem zb4 {P : Prop} (h : P := by first | rfl | (simp [errW_none, errW_some, bne_nil_] <;> rfl) | (simp [*, errW_none, errW_some] <;> rfl)) : P := h
theorem zb5 {P : Prop} (h : P := by repeat (first | (with_reducible first | exact HB.out | apply below_alloc | apply pw_below_drewN | apply below_drew1 | refine below_set ?_ GE420.out) | exact HB.out)) : P := h
theorem zb6 {P : Prop} (h : P := by first | rfl | (simp; done) | (simp [*]; done)) : P := h
theorem zb7 {P : Prop} (h : P := by repeat (first | (with_reducible first | exact HB.out | apply below_alloc | apply pw_below_drewN | apply below_drew1 | refine below_set ?_ GE146.out) | exact HB.out)) : P := h
theorem zb8 {P : Prop} (h : P := by repeat (first | (with_reducible first | exact HB.out | apply below_alloc | apply pw_below_drewN | apply below_drew1 | refine below_set ?_ (IsS90.ge HI132.out)) | exact HB.out)) : P := h
theorem zb9 {P : Prop} (h : P := by repeat (first | (with_reducible first | exact HK.out | apply KeepBut.set_ | apply keep_drewN | apply keep_drew | apply keep_alloc) | exact HK.out)) : P := h
theorem zb10 {P : Prop} (h : P := by (with_reducible repeat (first | refine blk_drewN ?_ _ | refine blk_drew ?_ | refine blk_alloc ?_ _)); refine blk_put (cs := #[.string t413, .string t414, .slice Ao51 t415.length co51, .string (⟨#[]⟩ : ByteArray)]) ?_ 3 _ rfl; (with_reducible repeat (first | refine blk_drewN ?_ _ | refine blk_drew ?_ | refine blk_alloc ?_ _)); refine blk_put (cs := #[.string t413, .string t414, .slice none 0 0, .string (⟨#[]⟩ : ByteArray)]) ?_ 2 _ rfl; (with_reducible repeat (first | refine blk_drewN ?_ _ | refine blk_drew ?_ | refine blk_alloc ?_ _)); refine blk_put (cs := #[.string t413, .string (⟨#[]⟩ : ByteArray), .slice none 0 0, .string (⟨#[]⟩ : ByteArray)]) ?_ 1 _ rfl; (with_reducible repeat (first | refine blk_drewN ?_ _ | refine blk_drew ?_ | refine blk_alloc ?_ _)); refine blk_put (cs := #[.string (⟨#[]⟩ : ByteArray), .string (⟨#[]⟩ : ByteArray), .slice none 0 0, .string (⟨#[]⟩ : ByteArray)]) ?_ 0 _ rfl; (with_reducible repeat (first | refine blk_drewN ?_ _ | refine blk_drew ?_ | refine blk_alloc ?_ _)); exact BK420.out) : P := h
theorem zb11 {P : Prop} (h : P := by repeat (first | (with_reducible first | exact HB.out | apply below_alloc | apply pw_below_drewN | apply below_drew1 | refine below_set ?_ (IsS54.ge HI187.out)) | exact HB.out)) : P := h
theorem zb12 {P : Prop} (h : P := by (with_reducible repeat (first | refine blk_drewN ?_ _ | refine blk_drew ?_ | refine blk_alloc ?_ _)); exact BK420.out) : P := h
theorem zb13 {P : Prop} (h : P := by (with_reducible repeat (first | refine blk_drewN ?_ _ | refine blk_drew ?_ | refine blk_alloc ?_ _)); exact BK146.out) : P := h
theorem zb14 {P : Prop} (h : P := by (with_reducible repeat (first | apply Kd.R_alloc | apply Kd.R_drewN | apply Kd.R_drew)); exact HO417.out) : P := h
theorem zb15 {P : Prop} (h : P := by kernel_rfl) : P := h
theorem zb16 {P : Prop} (h : P := by (with_reducible repeat (first | refine blk_drewN ?_ _ | refine blk_drew ?_ | refine blk_alloc ?_ _)); refine blk_put (cs := #[.string t151, .string (⟨#[]⟩ : ByteArray)]) ?_ 1 _ rfl; (with_reducible repeat (first | refine blk_drewN ?_ _ | refine blk_drew ?_ | refine blk_alloc ?_ _)); refine blk_put (cs := #[.string (⟨#[]⟩ : ByteArray), .string (⟨#[]⟩ : ByteArray)]) ?_ 0 _ rfl; (with_reducible repeat (first | refine blk_drewN ?_ _ | refine blk_drew ?_ | refine blk_alloc ?_ _)); exact BK146.out) : P := h
theorem zb17 {P : Prop} (h : P := by omega) : P := h
theorem zb18 {P : Prop} (h : P := by (with_reducible repeat (first | apply Kd.R_alloc | apply Kd.R_drewN | apply Kd.R_drew)); exact (Kd.R_mono (Kd.R_far (p := ⟨gb420, 3, none⟩) (Kd.R_far (p := ⟨gb420, 2, none⟩) (Kd.R_far (p := ⟨gb420, 1, none⟩) (Kd.R_far (p := ⟨gb420, 0, none⟩) (Kd.R_types HO417.out BK420.out (by decide)) (fun _ hk => hk.2) (.string t413)) (fun _ hk => hk.2) (.string t414)) (fun _ hk => hk.2) (.slice Ao51 t415.length co51)) (fun _ hk => hk.2) (.string t418)) (fun _ h_ => h_.1))) : P := h
theorem zb19 {P : Prop} (h : P := by repeat (first | (with_reducible first | exact HI154.out | apply IsS54.alloc | apply IsS54.drewN | apply IsS54.drew) | exact HI154.out)) : P := h
theorem zb20 {P : Prop} (h : P := by decide) : P := h
theorem zb21 {P : Prop} (h : P := by (with_reducible repeat (first | apply Kd.R_alloc | apply Kd.R_drewN | apply Kd.R_drew)); exact HO_2.out) : P := h
theorem zb22 {P : Prop} (h : P := by repeat (first | (with_reducible first | exact HB.out | apply below_alloc | apply pw_below_drewN | apply below_drew1 | refine below_set ?_ GE211.out) | exact HB.out)) : P := h
theorem zb23 {P : Prop} (h : P := by repeat (first | (with_reducible first | exact HB.out | apply below_alloc | apply pw_below_drewN | apply below_drew1 | refine below_set ?_ GE180.out) | exact HB.out)) : P := h
theorem zb24 {P : Prop} (h : P := by have := hlen.out; have := h20.out; (try simp only [List.length_append, List.length_singleton]); omega) : P := h
theorem zb25 {P : Prop} (h : P := by simp) : P := h
theorem zb26 {P : Prop} (h : P := by repeat (first | (with_reducible first | exact HI187.out | apply IsS54.alloc | apply IsS54.drewN | apply IsS54.drew) | exact HI187.out)) : P := h
theorem zb27 {P : Prop} (h : P := by (with_reducible repeat (first | refine blk_drewN ?_ _ | refine blk_drew ?_ | refine blk_alloc ?_ _)); refine blk_put (cs := #[.string ((rd_T49 l0 x12_1).f0), .string (⟨#[]⟩ : ByteArray)]) ?_ 1 _ rfl; (with_reducible repeat (first | refine blk_drewN ?_ _ | refine blk_drew ?_ | refine blk_alloc ?_ _)); refine blk_put (cs := #[.string (⟨#[]⟩ : ByteArray), .string (⟨#[]⟩ : ByteArray)]) ?_ 0 _ rfl; (with_reducible repeat (first | refine blk_drewN ?_ _ | refine blk_drew ?_ | refine blk_alloc ?_ _)); exact BK180.out) : P := h
theorem zb28 {P : Prop} (h : P := by repeat (first | (with_reducible first | exact HB.out | apply below_alloc | apply pw_below_drewN | apply below_drew1 | refine below_set ?_ (IsS90.ge HI0.out)) | exact HB.out)) : P := h
theorem zb29 {P : Prop} (h : P := by (with_reducible repeat (first | apply Kd.R_alloc | apply Kd.R_drewN | apply Kd.R_drew)); exact HO_6.out) : P := h
theorem zb30 {P : Prop} (h : P := by (try simp only [List.map_toArray, List.map_cons, List.map_nil]); first | done | (simp only [hji3]; rfl) | rfl | (simp only [List.length_drop, List.length_take]; rfl)) : P := h
theorem zb31 {P : Prop} (h : P := by (with_reducible repeat (first | apply Kd.R_alloc | apply Kd.R_drewN | apply Kd.R_drew)); exact (Kd.R_mono (Kd.R_far (p := ⟨gb211, 3, none⟩) (Kd.R_far (p := ⟨gb211, 2, none⟩) (Kd.R_far (p := ⟨gb211, 1, none⟩) (Kd.R_far (p := ⟨gb211, 0, none⟩) (Kd.R_types HO208.out BK211.out zb20) (fun _ hk => hk.2) (.string t204)) (fun _ hk => hk.2) (.string t205)) (fun _ hk => hk.2) (.slice Ao12 t206.length co12)) (fun _ hk => hk.2) (.string t209)) (fun _ h_ => h_.1))) : P := h
theorem zb32 {P : Prop} (h : P := by repeat (first | (with_reducible first | exact HI132.out | apply IsS90.alloc | apply IsS90.drewN | apply IsS90.drew | apply IsS90.set_0) | exact HI132.out)) : P := h
theorem zb33 {P : Prop} (h : P := by repeat (first | (with_reducible first | exact HI0.out | apply IsS90.alloc | apply IsS90.drewN | apply IsS90.drew | apply IsS90.set_0) | exact HI0.out)) : P := h
theorem zb34 {P : Prop} (h : P := by repeat (first | (with_reducible first | exact HB.out | apply below_alloc | apply pw_below_drewN | apply below_drew1 | refine below_set ?_ GE211.out | refine below_set ?_ GE219.out) | exact HB.out)) : P := h
theorem zb35 {P : Prop} (h : P := by have := hlen.out; have := h20.out; have := hl1.out; (try simp only [List.length_append, List.length_singleton]); omega) : P := h
theorem zb36 {P : Prop} (h : P := by (with_reducible repeat (first | apply Kd.R_alloc | apply Kd.R_drewN | apply Kd.R_drew)); exact (Kd.R_mono (Kd.R_far (p := ⟨gb180, 1, none⟩) (Kd.R_far (p := ⟨gb180, 0, none⟩) (Kd.R_types HO_6.out BK180.out zb20) (fun _ hk => hk.2) (.string ((rd_T49 l0 x12_1).f0))) (fun _ hk => hk.2) (.string ((rd_T49 l0 x12_1).f1))) (fun _ h_ => h_.1))) : P := h
theorem zb37 {P : Prop} (h : P := by simpa using hS'.out) : P := h
theorem zb38 {P : Prop} (h : P := by (with_reducible repeat (first | apply Kd.R_alloc | apply Kd.R_drewN | apply Kd.R_drew)); exact HO135.out) : P := h
theorem zb39 {P : Prop} (h : P := by first | rfl | (simp; done) | (simp [bne_nil_]; done) | (simp [*]; done)) : P := h
theorem zb40 {P : Prop} (h : P := by rw [hg]; exact (below_size zb0)) : P := h
theorem zb41 {P : Prop} (h : P := by (with_reducible repeat (first | refine blk_drewN ?_ _ | refine blk_drew ?_ | refine blk_alloc ?_ _)); exact BK211.out) : P := h
theorem zb42 {P : Prop} (h : P := by (with_reducible repeat (first | refine blk_drewN ?_ _ | refine blk_drew ?_ | refine blk_alloc ?_ _)); exact BK180.out) : P := h
end Go.Proofs.YteonhdfjfjpbjaaGreatDoor
/- Shelf -/
namespace Go.Proofs
open Go.Shelf
def Tryz.lays170_ren : Go.Shelf.Ren := ⟨fun | 170 => 34 | n => n, fun | 70 => 52 | 3 => 3 | 0 => 0 | 72 => 54 | 37 => 23 | 5 => 5 | n => n, fun | n => n⟩
theorem Tryz.lays170 : Go.Proofs.Lays.n170 Tryz.prog Tryz.lays170_ren := {
  mixed := by kernel_rfl
  f170 := Tryz.func34.trans (congrArg some (by kernel_rfl))
  t0 := Tryz.underlying0
  a0 := Tryz.isAgg0
  z0 := Tryz.sizeOf0
  v0 := Tryz.zeroValue0
  t3 := Tryz.underlying3
  a3 := Tryz.isAgg3
  z3 := Tryz.sizeOf3
  v3 := Tryz.zeroValue3
  t37 := Tryz.underlying23
  a37 := Tryz.isAgg23
  z37 := Tryz.sizeOf23
  v37 := Tryz.zeroValue23
  t70 := Tryz.underlying52
  a70 := Tryz.isAgg52
  z70 := Tryz.sizeOf52
  v70 := Tryz.zeroValue52
  t72 := Tryz.underlying54
  a72 := Tryz.isAgg54
  z72 := Tryz.sizeOf54
  v72 := Tryz.zeroValue54 }
def Tryz.lays169_ren : Go.Shelf.Ren := ⟨fun | 169 => 29 | n => n, fun | 70 => 52 | 9 => 9 | 0 => 0 | 72 => 54 | 37 => 23 | 127 => 89 | 3 => 3 | 5 => 5 | n => n, fun | n => n⟩
theorem Tryz.lays169 : Go.Proofs.Lays.n169 Tryz.prog Tryz.lays169_ren := {
  mixed := by kernel_rfl
  f169 := Tryz.func29.trans (congrArg some (by kernel_rfl))
  t0 := Tryz.underlying0
  a0 := Tryz.isAgg0
  z0 := Tryz.sizeOf0
  v0 := Tryz.zeroValue0
  t3 := Tryz.underlying3
  a3 := Tryz.isAgg3
  z3 := Tryz.sizeOf3
  v3 := Tryz.zeroValue3
  t9 := Tryz.underlying9
  a9 := Tryz.isAgg9
  z9 := Tryz.sizeOf9
  v9 := Tryz.zeroValue9
  t37 := Tryz.underlying23
  a37 := Tryz.isAgg23
  z37 := Tryz.sizeOf23
  v37 := Tryz.zeroValue23
  t70 := Tryz.underlying52
  a70 := Tryz.isAgg52
  z70 := Tryz.sizeOf52
  v70 := Tryz.zeroValue52
  t72 := Tryz.underlying54
  a72 := Tryz.isAgg54
  z72 := Tryz.sizeOf54
  v72 := Tryz.zeroValue54
  t127 := Tryz.underlying89
  a127 := Tryz.isAgg89
  z127 := Tryz.sizeOf89
  v127 := Tryz.zeroValue89 }
theorem Tryz.Builder_Extra_169 : Builder.Extra Tryz.prog Tryz.lays169_ren := {
  sizeBuilder := by kernel_rfl
  liesBuilder := by kernel_rfl
  t5 := Tryz.underlying5
  a5 := Tryz.isAgg5
  z5 := Tryz.sizeOf5
  v5 := Tryz.zeroValue5
  infoByte := by kernel_rfl
  cellsByte := by kernel_rfl
  sizeByte := by kernel_rfl
  neB5 := by decide }
def Tryz.lays156_ren : Go.Shelf.Ren := ⟨fun | 156 => 106 | 165 => 133 | 166 => 27 | 169 => 29 | 240 => 55 | 241 => 148 | 276 => 87 | 277 => 152 | n => n, fun | 31 => 32 | 9 => 9 | 3 => 3 | 4 => 4 | 0 => 0 | 20 => 20 | 72 => 54 | 76 => 57 | 70 => 52 | 37 => 23 | 75 => 56 | 127 => 89 | 164 => 111 | 5 => 5 | 80 => 60 | n => n, fun | n => n⟩
theorem Tryz.lays156 : Go.Proofs.Lays.n156 Tryz.prog Tryz.lays156_ren := {
  mixed := by kernel_rfl
  f156 := Tryz.func106.trans (congrArg some (by kernel_rfl))
  f165 := Tryz.func133.trans (congrArg some (by kernel_rfl))
  f166 := Tryz.func27.trans (congrArg some (by kernel_rfl))
  f169 := Tryz.func29.trans (congrArg some (by kernel_rfl))
  f240 := Tryz.func55.trans (congrArg some (by kernel_rfl))
  f241 := Tryz.func148.trans (congrArg some (by kernel_rfl))
  f276 := Tryz.func87.trans (congrArg some (by kernel_rfl))
  f277 := Tryz.func152.trans (congrArg some (by kernel_rfl))
  t0 := Tryz.underlying0
  a0 := Tryz.isAgg0
  z0 := Tryz.sizeOf0
  v0 := Tryz.zeroValue0
  t3 := Tryz.underlying3
  a3 := Tryz.isAgg3
  z3 := Tryz.sizeOf3
  v3 := Tryz.zeroValue3
  t4 := Tryz.underlying4
  a4 := Tryz.isAgg4
  z4 := Tryz.sizeOf4
  v4 := Tryz.zeroValue4
  t9 := Tryz.underlying9
  a9 := Tryz.isAgg9
  z9 := Tryz.sizeOf9
  v9 := Tryz.zeroValue9
  t20 := Tryz.underlying20
  a20 := Tryz.isAgg20
  z20 := Tryz.sizeOf20
  v20 := Tryz.zeroValue20
  t31 := Tryz.underlying32
  a31 := Tryz.isAgg32
  z31 := Tryz.sizeOf32
  v31 := Tryz.zeroValue32
  t37 := Tryz.underlying23
  a37 := Tryz.isAgg23
  z37 := Tryz.sizeOf23
  v37 := Tryz.zeroValue23
  t70 := Tryz.underlying52
  a70 := Tryz.isAgg52
  z70 := Tryz.sizeOf52
  v70 := Tryz.zeroValue52
  t72 := Tryz.underlying54
  a72 := Tryz.isAgg54
  z72 := Tryz.sizeOf54
  v72 := Tryz.zeroValue54
  t75 := Tryz.underlying56
  a75 := Tryz.isAgg56
  z75 := Tryz.sizeOf56
  v75 := Tryz.zeroValue56
  t76 := Tryz.underlying57
  a76 := Tryz.isAgg57
  z76 := Tryz.sizeOf57
  v76 := Tryz.zeroValue57
  t127 := Tryz.underlying89
  a127 := Tryz.isAgg89
  z127 := Tryz.sizeOf89
  v127 := Tryz.zeroValue89
  t164 := Tryz.underlying111
  a164 := Tryz.isAgg111
  z164 := Tryz.sizeOf111
  v164 := Tryz.zeroValue111 }
theorem Tryz.Builder_Extra_156 : Builder.Extra Tryz.prog Tryz.lays156_ren := {
  sizeBuilder := by kernel_rfl
  liesBuilder := by kernel_rfl
  t5 := Tryz.underlying5
  a5 := Tryz.isAgg5
  z5 := Tryz.sizeOf5
  v5 := Tryz.zeroValue5
  infoByte := by kernel_rfl
  cellsByte := by kernel_rfl
  sizeByte := by kernel_rfl
  neB5 := by decide }
open Go.RowKit in
theorem Tryz.strings_Join_none (a : Option Addr) (c : Nat) (sep : ByteArray) (w : World) :
    Calls Tryz.prog 106 #[.slice a 0 c, .string sep] w fun e w' => e = .returned (.string ⟨#[]⟩) ∧ w' = w := Any.strings_Join_none Tryz.lays156 Tryz.Builder_Extra_156 a c sep w
open Go.RowKit in
theorem Tryz.strings_Join (bk o c : Nat) (xs : List ByteArray) (sep : ByteArray) (w : World) (hcells : ∀ (j : Nat) x, xs[j]? = some x → w.cell? ⟨bk, o + j, none⟩ = some (.string x)) (hbk : bk < w.heap.size) (hN : xs.length ≤ 140737488355328) (hcap : xs.length ≤ c) (hlen : (Lib.join (xs.map (·.data.toList)) sep.data.toList).length ≤ 140737488355328) :
    Calls Tryz.prog 106 #[.slice (some ⟨bk, o, none⟩) xs.length c, .string sep] w fun e w' => e = .returned (.string ⟨(Lib.join (xs.map (·.data.toList)) sep.data.toList).toArray⟩) ∧ Below w.heap.size w w' := Any.strings_Join Tryz.lays156 Tryz.Builder_Extra_156 bk o c xs sep w hcells hbk hN hcap hlen
def Tryz.lays161_ren : Go.Shelf.Ren := ⟨fun | 161 => 58 | 231 => 77 | 227 => 79 | 233 => 80 | 235 => 82 | 228 => 108 | 197 => 109 | 151 => 110 | 260 => 135 | 152 => 136 | 137 => 105 | 119 => 150 | 224 => 125 | 225 => 124 | 217 => 123 | 266 => 143 | n => n, fun | 9 => 9 | 4 => 4 | 3 => 3 | 5 => 5 | 117 => 105 | 116 => 104 | 0 => 0 | 124 => 108 | 105 => 127 | 21 => 21 | 119 => 156 | 46 => 132 | 139 => 159 | 138 => 158 | n => n, fun | 3 => 4 | 4 => 5 | n => n⟩
theorem Tryz.lays161 : Go.Proofs.Lays.n161 Tryz.prog Tryz.lays161_ren := {
  mixed := by kernel_rfl
  f119 := Tryz.func150.trans (congrArg some (by kernel_rfl))
  f137 := Tryz.func105.trans (congrArg some (by kernel_rfl))
  f151 := Tryz.func110.trans (congrArg some (by kernel_rfl))
  f152 := Tryz.func136.trans (congrArg some (by kernel_rfl))
  f161 := Tryz.func58.trans (congrArg some (by kernel_rfl))
  f197 := Tryz.func109.trans (congrArg some (by kernel_rfl))
  f217 := Tryz.func123.trans (congrArg some (by kernel_rfl))
  f224 := Tryz.func125.trans (congrArg some (by kernel_rfl))
  f225 := Tryz.func124.trans (congrArg some (by kernel_rfl))
  f227 := Tryz.func79.trans (congrArg some (by kernel_rfl))
  f228 := Tryz.func108.trans (congrArg some (by kernel_rfl))
  f231 := Tryz.func77.trans (congrArg some (by kernel_rfl))
  f233 := Tryz.func80.trans (congrArg some (by kernel_rfl))
  f235 := Tryz.func82.trans (congrArg some (by kernel_rfl))
  f260 := Tryz.func135.trans (congrArg some (by kernel_rfl))
  f266 := Tryz.func143.trans (congrArg some (by kernel_rfl))
  t0 := Tryz.underlying0
  a0 := Tryz.isAgg0
  z0 := Tryz.sizeOf0
  v0 := Tryz.zeroValue0
  t3 := Tryz.underlying3
  a3 := Tryz.isAgg3
  z3 := Tryz.sizeOf3
  v3 := Tryz.zeroValue3
  t4 := Tryz.underlying4
  a4 := Tryz.isAgg4
  z4 := Tryz.sizeOf4
  v4 := Tryz.zeroValue4
  t5 := Tryz.underlying5
  a5 := Tryz.isAgg5
  z5 := Tryz.sizeOf5
  v5 := Tryz.zeroValue5
  t9 := Tryz.underlying9
  a9 := Tryz.isAgg9
  z9 := Tryz.sizeOf9
  v9 := Tryz.zeroValue9
  t21 := Tryz.underlying21
  a21 := Tryz.isAgg21
  z21 := Tryz.sizeOf21
  v21 := Tryz.zeroValue21
  t46 := Tryz.underlying132
  a46 := Tryz.isAgg132
  z46 := Tryz.sizeOf132
  v46 := Tryz.zeroValue132
  t105 := Tryz.underlying127
  a105 := Tryz.isAgg127
  z105 := Tryz.sizeOf127
  v105 := Tryz.zeroValue127
  t116 := Tryz.underlying104
  a116 := Tryz.isAgg104
  z116 := Tryz.sizeOf104
  t117 := Tryz.underlying105
  a117 := Tryz.isAgg105
  z117 := Tryz.sizeOf105
  v117 := Tryz.zeroValue105
  t119 := Tryz.underlying156
  a119 := Tryz.isAgg156
  z119 := Tryz.sizeOf156
  t124 := Tryz.underlying108
  a124 := Tryz.isAgg108
  z124 := Tryz.sizeOf108
  v124 := Tryz.zeroValue108
  t138 := Tryz.underlying158
  a138 := Tryz.isAgg158
  z138 := Tryz.sizeOf158
  v138 := Tryz.zeroValue158
  t139 := Tryz.underlying159
  a139 := Tryz.isAgg159
  z139 := Tryz.sizeOf159
  v139 := Tryz.zeroValue159
  g3 := by kernel_rfl
  g4 := by kernel_rfl }
def Tryz.lays160_ren : Go.Shelf.Ren := ⟨fun | 160 => 46 | 232 => 78 | 231 => 77 | 227 => 79 | 234 => 81 | 233 => 80 | 236 => 83 | 235 => 82 | 228 => 108 | 271 => 111 | 151 => 110 | 197 => 109 | 120 => 137 | 152 => 136 | 260 => 135 | 137 => 105 | 119 => 150 | 224 => 125 | 225 => 124 | 217 => 123 | 266 => 143 | n => n, fun | 9 => 9 | 4 => 4 | 3 => 3 | 5 => 5 | 117 => 105 | 116 => 104 | 0 => 0 | 124 => 108 | 21 => 21 | 105 => 127 | 46 => 132 | 119 => 156 | 139 => 159 | 138 => 158 | n => n, fun | 3 => 4 | 4 => 5 | n => n⟩
theorem Tryz.lays160 : Go.Proofs.Lays.n160 Tryz.prog Tryz.lays160_ren := {
  mixed := by kernel_rfl
  f119 := Tryz.func150.trans (congrArg some (by kernel_rfl))
  f120 := Tryz.func137.trans (congrArg some (by kernel_rfl))
  f137 := Tryz.func105.trans (congrArg some (by kernel_rfl))
  f151 := Tryz.func110.trans (congrArg some (by kernel_rfl))
  f152 := Tryz.func136.trans (congrArg some (by kernel_rfl))
  f160 := Tryz.func46.trans (congrArg some (by kernel_rfl))
  f197 := Tryz.func109.trans (congrArg some (by kernel_rfl))
  f217 := Tryz.func123.trans (congrArg some (by kernel_rfl))
  f224 := Tryz.func125.trans (congrArg some (by kernel_rfl))
  f225 := Tryz.func124.trans (congrArg some (by kernel_rfl))
  f227 := Tryz.func79.trans (congrArg some (by kernel_rfl))
  f228 := Tryz.func108.trans (congrArg some (by kernel_rfl))
  f231 := Tryz.func77.trans (congrArg some (by kernel_rfl))
  f232 := Tryz.func78.trans (congrArg some (by kernel_rfl))
  f233 := Tryz.func80.trans (congrArg some (by kernel_rfl))
  f234 := Tryz.func81.trans (congrArg some (by kernel_rfl))
  f235 := Tryz.func82.trans (congrArg some (by kernel_rfl))
  f236 := Tryz.func83.trans (congrArg some (by kernel_rfl))
  f260 := Tryz.func135.trans (congrArg some (by kernel_rfl))
  f266 := Tryz.func143.trans (congrArg some (by kernel_rfl))
  f271 := Tryz.func111.trans (congrArg some (by kernel_rfl))
  t0 := Tryz.underlying0
  a0 := Tryz.isAgg0
  z0 := Tryz.sizeOf0
  v0 := Tryz.zeroValue0
  t3 := Tryz.underlying3
  a3 := Tryz.isAgg3
  z3 := Tryz.sizeOf3
  v3 := Tryz.zeroValue3
  t4 := Tryz.underlying4
  a4 := Tryz.isAgg4
  z4 := Tryz.sizeOf4
  v4 := Tryz.zeroValue4
  t5 := Tryz.underlying5
  a5 := Tryz.isAgg5
  z5 := Tryz.sizeOf5
  v5 := Tryz.zeroValue5
  t9 := Tryz.underlying9
  a9 := Tryz.isAgg9
  z9 := Tryz.sizeOf9
  v9 := Tryz.zeroValue9
  t21 := Tryz.underlying21
  a21 := Tryz.isAgg21
  z21 := Tryz.sizeOf21
  v21 := Tryz.zeroValue21
  t46 := Tryz.underlying132
  a46 := Tryz.isAgg132
  z46 := Tryz.sizeOf132
  v46 := Tryz.zeroValue132
  t105 := Tryz.underlying127
  a105 := Tryz.isAgg127
  z105 := Tryz.sizeOf127
  v105 := Tryz.zeroValue127
  t116 := Tryz.underlying104
  a116 := Tryz.isAgg104
  z116 := Tryz.sizeOf104
  t117 := Tryz.underlying105
  a117 := Tryz.isAgg105
  z117 := Tryz.sizeOf105
  v117 := Tryz.zeroValue105
  t119 := Tryz.underlying156
  a119 := Tryz.isAgg156
  z119 := Tryz.sizeOf156
  t124 := Tryz.underlying108
  a124 := Tryz.isAgg108
  z124 := Tryz.sizeOf108
  v124 := Tryz.zeroValue108
  t138 := Tryz.underlying158
  a138 := Tryz.isAgg158
  z138 := Tryz.sizeOf158
  v138 := Tryz.zeroValue158
  t139 := Tryz.underlying159
  a139 := Tryz.isAgg159
  z139 := Tryz.sizeOf159
  v139 := Tryz.zeroValue159
  g3 := by kernel_rfl
  g4 := by kernel_rfl }
def Tryz.lays137_ren : Go.Shelf.Ren := ⟨fun | 137 => 105 | 217 => 123 | 266 => 143 | n => n, fun | 9 => 9 | 5 => 5 | 3 => 3 | n => n, fun | n => n⟩
theorem Tryz.lays137 : Go.Proofs.Lays.n137 Tryz.prog Tryz.lays137_ren := {
  mixed := by kernel_rfl
  f137 := Tryz.func105.trans (congrArg some (by kernel_rfl))
  f217 := Tryz.func123.trans (congrArg some (by kernel_rfl))
  f266 := Tryz.func143.trans (congrArg some (by kernel_rfl))
  t3 := Tryz.underlying3
  a3 := Tryz.isAgg3
  z3 := Tryz.sizeOf3
  v3 := Tryz.zeroValue3
  t5 := Tryz.underlying5
  a5 := Tryz.isAgg5
  z5 := Tryz.sizeOf5
  v5 := Tryz.zeroValue5
  t9 := Tryz.underlying9
  a9 := Tryz.isAgg9
  z9 := Tryz.sizeOf9
  v9 := Tryz.zeroValue9 }
open Go.RowKit in
theorem Tryz.strings_IndexByte (s : ByteArray) (c : Int) (w : World) :
    Calls Tryz.prog 105 #[.string s, .int .u8 c] w fun e w' => e = .returned (.int .i64 (Lib.indexByte s.data.toList c.toNat.toUInt8)) ∧ w' = w := Any.strings_IndexByte Tryz.lays137 s c w
open Go.RowKit in
theorem Tryz.Builder_Len_f (B b : Nat) (bs : List Value) (w : World) (h : Lib.IsBuilderF 54 5 B b bs w) :
    Calls Tryz.prog 34 #[.pointer (some ⟨b, 0, none⟩)] w fun e w' => e = .returned (.int .i64 bs.length) ∧ w' = w := Any.Builder_Len_f Tryz.lays170 B b bs w h
open Go.RowKit in
theorem Tryz.Builder_String_any_k (B b : Nat) (l : List UInt8) (w : World) (h : Lib.IsBuilderF 54 5 B b (Lib.byteCells l) w) (hBw : B ≤ w.heap.size) :
    Calls Tryz.prog 29 #[.pointer (some ⟨b, 0, none⟩)] w fun e w' => e = .returned (.string ⟨l.toArray⟩) ∧ (Lib.IsBuilderF 54 5 B b (Lib.byteCells l) w' ∧ Below B w w' ∧ Lib.OthersKept 5 (some b) w w') := Any.Builder_String_any_k Tryz.lays169 Tryz.Builder_Extra_169 B b l w h hBw
def Tryz.laysC245_ren : Go.Shelf.Ren := ⟨fun | 245 => 85 | 279 => 114 | 280 => 115 | 281 => 116 | 282 => 117 | 316 => 138 | 171 => 140 | 205 => 139 | 243 => 151 | 246 => 56 | 283 => 88 | 284 => 89 | 285 => 90 | 286 => 91 | 129 => 119 | 317 => 118 | 318 => 120 | 319 => 121 | 320 => 122 | 337 => 141 | 338 => 142 | n => n, fun | 9 => 9 | 3 => 3 | 75 => 56 | 167 => 130 | 4 => 4 | 168 => 133 | 210 => 148 | 37 => 23 | 0 => 0 | 127 => 89 | 145 => 162 | 143 => 160 | 2 => 2 | 171 => 113 | 53 => 82 | 5 => 5 | 173 => 116 | 212 => 138 | 51 => 139 | 20 => 20 | 213 => 140 | 46 => 132 | 232 => 163 | 233 => 164 | 80 => 60 | n => n, fun | 15 => 2 | 16 => 3 | 17 => 0 | 18 => 6 | 19 => 7 | n => n⟩
theorem Tryz.laysC245 : Go.Proofs.LaysC.n245 Tryz.prog Tryz.laysC245_ren := {
  mixed := by kernel_rfl
  f129 := Tryz.func119.trans (congrArg some (by kernel_rfl))
  f171 := Tryz.func140.trans (congrArg some (by kernel_rfl))
  f205 := Tryz.func139.trans (congrArg some (by kernel_rfl))
  f243 := Tryz.func151.trans (congrArg some (by kernel_rfl))
  f245 := Tryz.func85.trans (congrArg some (by kernel_rfl))
  f246 := Tryz.func56.trans (congrArg some (by kernel_rfl))
  f279 := Tryz.func114.trans (congrArg some (by kernel_rfl))
  f280 := Tryz.func115.trans (congrArg some (by kernel_rfl))
  f281 := Tryz.func116.trans (congrArg some (by kernel_rfl))
  f282 := Tryz.func117.trans (congrArg some (by kernel_rfl))
  f283 := Tryz.func88.trans (congrArg some (by kernel_rfl))
  f284 := Tryz.func89.trans (congrArg some (by kernel_rfl))
  f285 := Tryz.func90.trans (congrArg some (by kernel_rfl))
  f286 := Tryz.func91.trans (congrArg some (by kernel_rfl))
  f316 := Tryz.func138.trans (congrArg some (by kernel_rfl))
  f317 := Tryz.func118.trans (congrArg some (by kernel_rfl))
  f318 := Tryz.func120.trans (congrArg some (by kernel_rfl))
  f319 := Tryz.func121.trans (congrArg some (by kernel_rfl))
  f320 := Tryz.func122.trans (congrArg some (by kernel_rfl))
  f337 := Tryz.func141.trans (congrArg some (by kernel_rfl))
  f338 := Tryz.func142.trans (congrArg some (by kernel_rfl))
  t0 := Tryz.underlying0
  a0 := Tryz.isAgg0
  z0 := Tryz.sizeOf0
  v0 := Tryz.zeroValue0
  t2 := Tryz.underlying2
  a2 := Tryz.isAgg2
  z2 := Tryz.sizeOf2
  v2 := Tryz.zeroValue2
  t3 := Tryz.underlying3
  a3 := Tryz.isAgg3
  z3 := Tryz.sizeOf3
  v3 := Tryz.zeroValue3
  t4 := Tryz.underlying4
  a4 := Tryz.isAgg4
  z4 := Tryz.sizeOf4
  v4 := Tryz.zeroValue4
  t5 := Tryz.underlying5
  a5 := Tryz.isAgg5
  z5 := Tryz.sizeOf5
  v5 := Tryz.zeroValue5
  t9 := Tryz.underlying9
  a9 := Tryz.isAgg9
  z9 := Tryz.sizeOf9
  v9 := Tryz.zeroValue9
  t20 := Tryz.underlying20
  a20 := Tryz.isAgg20
  z20 := Tryz.sizeOf20
  v20 := Tryz.zeroValue20
  t37 := Tryz.underlying23
  a37 := Tryz.isAgg23
  z37 := Tryz.sizeOf23
  v37 := Tryz.zeroValue23
  t46 := Tryz.underlying132
  a46 := Tryz.isAgg132
  z46 := Tryz.sizeOf132
  v46 := Tryz.zeroValue132
  t51 := Tryz.underlying139
  a51 := Tryz.isAgg139
  z51 := Tryz.sizeOf139
  v51 := Tryz.zeroValue139
  t53 := Tryz.underlying82
  a53 := Tryz.isAgg82
  z53 := Tryz.sizeOf82
  v53 := Tryz.zeroValue82
  t75 := Tryz.underlying56
  a75 := Tryz.isAgg56
  z75 := Tryz.sizeOf56
  v75 := Tryz.zeroValue56
  t127 := Tryz.underlying89
  a127 := Tryz.isAgg89
  z127 := Tryz.sizeOf89
  v127 := Tryz.zeroValue89
  t143 := Tryz.underlying160
  a143 := Tryz.isAgg160
  z143 := Tryz.sizeOf160
  v143 := Tryz.zeroValue160
  t145 := Tryz.underlying162
  a145 := Tryz.isAgg162
  z145 := Tryz.sizeOf162
  v145 := Tryz.zeroValue162
  t167 := Tryz.underlying130
  a167 := Tryz.isAgg130
  z167 := Tryz.sizeOf130
  v167 := Tryz.zeroValue130
  t168 := Tryz.underlying133
  a168 := Tryz.isAgg133
  z168 := Tryz.sizeOf133
  v168 := Tryz.zeroValue133
  t171 := Tryz.underlying113
  a171 := Tryz.isAgg113
  z171 := Tryz.sizeOf113
  v171 := Tryz.zeroValue113
  t173 := Tryz.underlying116
  a173 := Tryz.isAgg116
  z173 := Tryz.sizeOf116
  v173 := Tryz.zeroValue116
  t210 := Tryz.underlying148
  a210 := Tryz.isAgg148
  z210 := Tryz.sizeOf148
  v210 := Tryz.zeroValue148
  t212 := Tryz.underlying138
  a212 := Tryz.isAgg138
  z212 := Tryz.sizeOf138
  v212 := Tryz.zeroValue138
  t213 := Tryz.underlying140
  a213 := Tryz.isAgg140
  z213 := Tryz.sizeOf140
  t232 := Tryz.underlying163
  a232 := Tryz.isAgg163
  z232 := Tryz.sizeOf163
  v232 := Tryz.zeroValue163
  t233 := Tryz.underlying164
  a233 := Tryz.isAgg164
  z233 := Tryz.sizeOf164
  v233 := Tryz.zeroValue164
  g15 := by kernel_rfl
  g16 := by kernel_rfl
  g17 := by kernel_rfl
  g18 := by kernel_rfl
  g19 := by kernel_rfl
  t80 := Tryz.underlying60
  a80 := Tryz.isAgg60
  z80 := Tryz.sizeOf60
  v80 := Tryz.zeroValue60
  i0 := by kernel_rfl
  i2 := by kernel_rfl
  i3 := by kernel_rfl
  i4 := by kernel_rfl
  i5 := by kernel_rfl
  i9 := by kernel_rfl
  i20 := by kernel_rfl
  i37 := by kernel_rfl
  i46 := by kernel_rfl
  i51 := by kernel_rfl
  i53 := by kernel_rfl
  i75 := by kernel_rfl
  i80 := by kernel_rfl
  i127 := by kernel_rfl
  i143 := by kernel_rfl
  i145 := by kernel_rfl
  i167 := by kernel_rfl
  i168 := by kernel_rfl
  i171 := by kernel_rfl
  i173 := by kernel_rfl
  i210 := by kernel_rfl
  i212 := by kernel_rfl
  i232 := by kernel_rfl
  i233 := by kernel_rfl
  m15 := by kernel_rfl
  m16 := by kernel_rfl
  m17 := by kernel_rfl
  m18 := by kernel_rfl
  m19 := by kernel_rfl
  c0 := by kernel_rfl
  c2 := by kernel_rfl
  c3 := by kernel_rfl
  c4 := by kernel_rfl
  c5 := by kernel_rfl
  c9 := by kernel_rfl
  c20 := by kernel_rfl
  c37 := by kernel_rfl
  c46 := by kernel_rfl
  c51 := by kernel_rfl
  c53 := by kernel_rfl
  c75 := by kernel_rfl
  c80 := by kernel_rfl
  c127 := by kernel_rfl
  c143 := by kernel_rfl
  c145 := by kernel_rfl
  c167 := by kernel_rfl
  c168 := by kernel_rfl
  c171 := by kernel_rfl
  c173 := by kernel_rfl
  c210 := by kernel_rfl
  c212 := by kernel_rfl
  c213 := by kernel_rfl
  c232 := by kernel_rfl
  c233 := by kernel_rfl }
open Go.RowKit in
theorem Tryz.strconv_toError_syntax (fn s : ByteArray) (base bits : Int) (ev : Value) (w : World) (hlim : s.size ≤ 281474976710656) (hv : w.cell? ⟨2, 0, none⟩ = some ev) (hev : ev = .nilIface ∨ ∃ te pe, ev = .iface te pe) :
    Calls Tryz.prog 85 #[.string fn, .string s, .int .i64 base, .int .i64 bits, .iface 130 (.int .i64 2)] w fun e w' => ∃ N, e = .returned (.iface 133 (.pointer (some ⟨N, 0, none⟩))) ∧ w.heap.size ≤ N ∧ w'.heap[N]? = some (.cells #[.string fn, .string s, ev] 148 (0, 0)) ∧ Below w.heap.size w w' := Any.strconv_toError_syntax Tryz.laysC245 fn s base bits ev w hlim hv hev
def Tryz.lays321_ren : Go.Shelf.Ren := ⟨fun | 321 => 112 | n => n, fun | 5 => 5 | n => n, fun | n => n⟩
theorem Tryz.lays321 : Go.Proofs.Lays.n321 Tryz.prog Tryz.lays321_ren := {
  mixed := by kernel_rfl
  f321 := Tryz.func112.trans (congrArg some (by kernel_rfl))
  t5 := Tryz.underlying5
  a5 := Tryz.isAgg5
  z5 := Tryz.sizeOf5
  v5 := Tryz.zeroValue5 }
open Go.RowKit in
theorem Tryz.internal_strconv_lower (c : Int) (w : World) :
    Calls Tryz.prog 112 #[.int .u8 c] w fun e w' => e = .returned (.int .u8 (bits .or .u8 c 32)) ∧ w' = w := Any.internal_strconv_lower Tryz.lays321 c w
open Go.RowKit in
theorem Tryz.strconv_toError_range (fn s : ByteArray) (base bits : Int) (ev : Value) (w : World) (hlim : s.size ≤ 281474976710656) (hv : w.cell? ⟨3, 0, none⟩ = some ev) (hev : ev = .nilIface ∨ ∃ te pe, ev = .iface te pe) :
    Calls Tryz.prog 85 #[.string fn, .string s, .int .i64 base, .int .i64 bits, .iface 130 (.int .i64 1)] w fun e w' => ∃ N, e = .returned (.iface 133 (.pointer (some ⟨N, 0, none⟩))) ∧ w.heap.size ≤ N ∧ w'.heap[N]? = some (.cells #[.string fn, .string s, ev] 148 (0, 0)) ∧ Below w.heap.size w w' := Any.strconv_toError_range Tryz.laysC245 fn s base bits ev w hlim hv hev
def Tryz.laysC172_ren : Go.Shelf.Ren := ⟨fun | 172 => 107 | 244 => 134 | 245 => 85 | 247 => 149 | 279 => 114 | 280 => 115 | 281 => 116 | 282 => 117 | 287 => 84 | 316 => 138 | 171 => 140 | 205 => 139 | 321 => 112 | 322 => 113 | 243 => 151 | 246 => 56 | 283 => 88 | 284 => 89 | 285 => 90 | 286 => 91 | 129 => 119 | 317 => 118 | 318 => 120 | 319 => 121 | 320 => 122 | 337 => 141 | 338 => 142 | n => n, fun | 9 => 9 | 3 => 3 | 75 => 56 | 76 => 57 | 4 => 4 | 5 => 5 | 167 => 130 | 37 => 23 | 0 => 0 | 85 => 154 | 2 => 2 | 168 => 133 | 53 => 82 | 175 => 83 | 46 => 132 | 210 => 148 | 127 => 89 | 145 => 162 | 143 => 160 | 21 => 21 | 171 => 113 | 173 => 116 | 212 => 138 | 51 => 139 | 20 => 20 | 213 => 140 | 232 => 163 | 233 => 164 | 80 => 60 | n => n, fun | 15 => 2 | 16 => 3 | 17 => 0 | 18 => 6 | 19 => 7 | n => n⟩
theorem Tryz.laysC172 : Go.Proofs.LaysC.n172 Tryz.prog Tryz.laysC172_ren := {
  mixed := by kernel_rfl
  f129 := Tryz.func119.trans (congrArg some (by kernel_rfl))
  f171 := Tryz.func140.trans (congrArg some (by kernel_rfl))
  f172 := Tryz.func107.trans (congrArg some (by kernel_rfl))
  f205 := Tryz.func139.trans (congrArg some (by kernel_rfl))
  f243 := Tryz.func151.trans (congrArg some (by kernel_rfl))
  f244 := Tryz.func134.trans (congrArg some (by kernel_rfl))
  f245 := Tryz.func85.trans (congrArg some (by kernel_rfl))
  f246 := Tryz.func56.trans (congrArg some (by kernel_rfl))
  f247 := Tryz.func149.trans (congrArg some (by kernel_rfl))
  f279 := Tryz.func114.trans (congrArg some (by kernel_rfl))
  f280 := Tryz.func115.trans (congrArg some (by kernel_rfl))
  f281 := Tryz.func116.trans (congrArg some (by kernel_rfl))
  f282 := Tryz.func117.trans (congrArg some (by kernel_rfl))
  f283 := Tryz.func88.trans (congrArg some (by kernel_rfl))
  f284 := Tryz.func89.trans (congrArg some (by kernel_rfl))
  f285 := Tryz.func90.trans (congrArg some (by kernel_rfl))
  f286 := Tryz.func91.trans (congrArg some (by kernel_rfl))
  f287 := Tryz.func84.trans (congrArg some (by kernel_rfl))
  f316 := Tryz.func138.trans (congrArg some (by kernel_rfl))
  f317 := Tryz.func118.trans (congrArg some (by kernel_rfl))
  f318 := Tryz.func120.trans (congrArg some (by kernel_rfl))
  f319 := Tryz.func121.trans (congrArg some (by kernel_rfl))
  f320 := Tryz.func122.trans (congrArg some (by kernel_rfl))
  f321 := Tryz.func112.trans (congrArg some (by kernel_rfl))
  f322 := Tryz.func113.trans (congrArg some (by kernel_rfl))
  f337 := Tryz.func141.trans (congrArg some (by kernel_rfl))
  f338 := Tryz.func142.trans (congrArg some (by kernel_rfl))
  t0 := Tryz.underlying0
  a0 := Tryz.isAgg0
  z0 := Tryz.sizeOf0
  v0 := Tryz.zeroValue0
  t2 := Tryz.underlying2
  a2 := Tryz.isAgg2
  z2 := Tryz.sizeOf2
  v2 := Tryz.zeroValue2
  t3 := Tryz.underlying3
  a3 := Tryz.isAgg3
  z3 := Tryz.sizeOf3
  v3 := Tryz.zeroValue3
  t4 := Tryz.underlying4
  a4 := Tryz.isAgg4
  z4 := Tryz.sizeOf4
  v4 := Tryz.zeroValue4
  t5 := Tryz.underlying5
  a5 := Tryz.isAgg5
  z5 := Tryz.sizeOf5
  v5 := Tryz.zeroValue5
  t9 := Tryz.underlying9
  a9 := Tryz.isAgg9
  z9 := Tryz.sizeOf9
  v9 := Tryz.zeroValue9
  t20 := Tryz.underlying20
  a20 := Tryz.isAgg20
  z20 := Tryz.sizeOf20
  v20 := Tryz.zeroValue20
  t21 := Tryz.underlying21
  a21 := Tryz.isAgg21
  z21 := Tryz.sizeOf21
  v21 := Tryz.zeroValue21
  t37 := Tryz.underlying23
  a37 := Tryz.isAgg23
  z37 := Tryz.sizeOf23
  v37 := Tryz.zeroValue23
  t46 := Tryz.underlying132
  a46 := Tryz.isAgg132
  z46 := Tryz.sizeOf132
  v46 := Tryz.zeroValue132
  t51 := Tryz.underlying139
  a51 := Tryz.isAgg139
  z51 := Tryz.sizeOf139
  v51 := Tryz.zeroValue139
  t53 := Tryz.underlying82
  a53 := Tryz.isAgg82
  z53 := Tryz.sizeOf82
  v53 := Tryz.zeroValue82
  t75 := Tryz.underlying56
  a75 := Tryz.isAgg56
  z75 := Tryz.sizeOf56
  v75 := Tryz.zeroValue56
  t76 := Tryz.underlying57
  a76 := Tryz.isAgg57
  z76 := Tryz.sizeOf57
  v76 := Tryz.zeroValue57
  t85 := Tryz.underlying154
  a85 := Tryz.isAgg154
  z85 := Tryz.sizeOf154
  v85 := Tryz.zeroValue154
  t127 := Tryz.underlying89
  a127 := Tryz.isAgg89
  z127 := Tryz.sizeOf89
  v127 := Tryz.zeroValue89
  t143 := Tryz.underlying160
  a143 := Tryz.isAgg160
  z143 := Tryz.sizeOf160
  v143 := Tryz.zeroValue160
  t145 := Tryz.underlying162
  a145 := Tryz.isAgg162
  z145 := Tryz.sizeOf162
  v145 := Tryz.zeroValue162
  t167 := Tryz.underlying130
  a167 := Tryz.isAgg130
  z167 := Tryz.sizeOf130
  v167 := Tryz.zeroValue130
  t168 := Tryz.underlying133
  a168 := Tryz.isAgg133
  z168 := Tryz.sizeOf133
  v168 := Tryz.zeroValue133
  t171 := Tryz.underlying113
  a171 := Tryz.isAgg113
  z171 := Tryz.sizeOf113
  v171 := Tryz.zeroValue113
  t173 := Tryz.underlying116
  a173 := Tryz.isAgg116
  z173 := Tryz.sizeOf116
  v173 := Tryz.zeroValue116
  t175 := Tryz.underlying83
  a175 := Tryz.isAgg83
  z175 := Tryz.sizeOf83
  v175 := Tryz.zeroValue83
  t210 := Tryz.underlying148
  a210 := Tryz.isAgg148
  z210 := Tryz.sizeOf148
  v210 := Tryz.zeroValue148
  t212 := Tryz.underlying138
  a212 := Tryz.isAgg138
  z212 := Tryz.sizeOf138
  v212 := Tryz.zeroValue138
  t213 := Tryz.underlying140
  a213 := Tryz.isAgg140
  z213 := Tryz.sizeOf140
  t232 := Tryz.underlying163
  a232 := Tryz.isAgg163
  z232 := Tryz.sizeOf163
  v232 := Tryz.zeroValue163
  t233 := Tryz.underlying164
  a233 := Tryz.isAgg164
  z233 := Tryz.sizeOf164
  v233 := Tryz.zeroValue164
  g15 := by kernel_rfl
  g16 := by kernel_rfl
  g17 := by kernel_rfl
  g18 := by kernel_rfl
  g19 := by kernel_rfl
  t80 := Tryz.underlying60
  a80 := Tryz.isAgg60
  z80 := Tryz.sizeOf60
  v80 := Tryz.zeroValue60
  i0 := by kernel_rfl
  i2 := by kernel_rfl
  i3 := by kernel_rfl
  i4 := by kernel_rfl
  i5 := by kernel_rfl
  i9 := by kernel_rfl
  i20 := by kernel_rfl
  i21 := by kernel_rfl
  i37 := by kernel_rfl
  i46 := by kernel_rfl
  i51 := by kernel_rfl
  i53 := by kernel_rfl
  i75 := by kernel_rfl
  i76 := by kernel_rfl
  i80 := by kernel_rfl
  i85 := by kernel_rfl
  i127 := by kernel_rfl
  i143 := by kernel_rfl
  i145 := by kernel_rfl
  i167 := by kernel_rfl
  i168 := by kernel_rfl
  i171 := by kernel_rfl
  i173 := by kernel_rfl
  i175 := by kernel_rfl
  i210 := by kernel_rfl
  i212 := by kernel_rfl
  i232 := by kernel_rfl
  i233 := by kernel_rfl
  m15 := by kernel_rfl
  m16 := by kernel_rfl
  m17 := by kernel_rfl
  m18 := by kernel_rfl
  m19 := by kernel_rfl
  c0 := by kernel_rfl
  c2 := by kernel_rfl
  c3 := by kernel_rfl
  c4 := by kernel_rfl
  c5 := by kernel_rfl
  c9 := by kernel_rfl
  c20 := by kernel_rfl
  c21 := by kernel_rfl
  c37 := by kernel_rfl
  c46 := by kernel_rfl
  c51 := by kernel_rfl
  c53 := by kernel_rfl
  c75 := by kernel_rfl
  c76 := by kernel_rfl
  c80 := by kernel_rfl
  c85 := by kernel_rfl
  c127 := by kernel_rfl
  c143 := by kernel_rfl
  c145 := by kernel_rfl
  c167 := by kernel_rfl
  c168 := by kernel_rfl
  c171 := by kernel_rfl
  c173 := by kernel_rfl
  c175 := by kernel_rfl
  c210 := by kernel_rfl
  c212 := by kernel_rfl
  c213 := by kernel_rfl
  c232 := by kernel_rfl
  c233 := by kernel_rfl }
open Go.RowKit in
theorem Tryz.strconv_Atoi_ok (s : ByteArray) (hmax : s.size ≤ 9223372036854775806) (v : Int) (h : Lib.atoiAll s.data.toList = .ok v) (w : World) :
    Calls Tryz.prog 107 #[.string s] w fun e w' => e = .returned (.tuple #[.int .i64 v, .nilIface]) ∧ (w' = w ∨ ∃ t, w' = Lib.bytesWorld w 5 t) := Any.strconv_Atoi_ok Tryz.laysC172 s hmax v h w
open Go.RowKit in
theorem Tryz.strconv_Atoi_syntax_var (s : ByteArray) (hlim : s.size ≤ 281474976710656) (h : Lib.atoiAll s.data.toList = Go.Lib.NumEnd.syntax) (tp : TypeId) (p : Value) (w : World) (hvar : w.var? Tryz.prog "strconv.ErrSyntax" = some #[.iface tp p]) :
    Calls Tryz.prog 107 #[.string s] w fun e w' => ∃ N, e = .returned (.tuple #[.int .i64 0, .iface 133 (.pointer (some ⟨N, 0, none⟩))]) ∧ w.heap.size ≤ N ∧ w'.heap[N]? = some (.cells #[.string ⟨#[65, 116, 111, 105]⟩, .string s, .iface tp p] 148 (0, 0)) ∧ Below w.heap.size w w' := Any.strconv_Atoi_syntax_var Tryz.laysC172 s hlim h tp p w hvar
open Go.RowKit in
theorem Tryz.strconv_Atoi_range_var (s : ByteArray) (hlim : s.size ≤ 281474976710656) (h : Lib.atoiAll s.data.toList = .range) (tp : TypeId) (p : Value) (w : World) (hvar : w.var? Tryz.prog "strconv.ErrRange" = some #[.iface tp p]) :
    Calls Tryz.prog 107 #[.string s] w fun e w' => ∃ N, e = .returned (.tuple #[.int .i64 (Lib.atoiSat s.data.toList), .iface 133 (.pointer (some ⟨N, 0, none⟩))]) ∧ w.heap.size ≤ N ∧ w'.heap[N]? = some (.cells #[.string ⟨#[65, 116, 111, 105]⟩, .string s, .iface tp p] 148 (0, 0)) ∧ Below w.heap.size w w' := Any.strconv_Atoi_range_var Tryz.laysC172 s hlim h tp p w hvar
def Tryz.lays145_ren : Go.Shelf.Ren := ⟨fun | 145 => 31 | 220 => 57 | 219 => 92 | 217 => 123 | 225 => 124 | 224 => 125 | 267 => 126 | 266 => 143 | 314 => 144 | n => n, fun | 9 => 9 | 4 => 4 | 59 => 61 | 3 => 3 | 5 => 5 | 46 => 132 | 146 => 151 | 51 => 139 | n => n, fun | 1 => 1 | n => n⟩
theorem Tryz.lays145 : Go.Proofs.Lays.n145 Tryz.prog Tryz.lays145_ren := {
  mixed := by kernel_rfl
  f145 := Tryz.func31.trans (congrArg some (by kernel_rfl))
  f217 := Tryz.func123.trans (congrArg some (by kernel_rfl))
  f219 := Tryz.func92.trans (congrArg some (by kernel_rfl))
  f220 := Tryz.func57.trans (congrArg some (by kernel_rfl))
  f224 := Tryz.func125.trans (congrArg some (by kernel_rfl))
  f225 := Tryz.func124.trans (congrArg some (by kernel_rfl))
  f266 := Tryz.func143.trans (congrArg some (by kernel_rfl))
  f267 := Tryz.func126.trans (congrArg some (by kernel_rfl))
  f314 := Tryz.func144.trans (congrArg some (by kernel_rfl))
  t3 := Tryz.underlying3
  a3 := Tryz.isAgg3
  z3 := Tryz.sizeOf3
  v3 := Tryz.zeroValue3
  t4 := Tryz.underlying4
  a4 := Tryz.isAgg4
  z4 := Tryz.sizeOf4
  v4 := Tryz.zeroValue4
  t5 := Tryz.underlying5
  a5 := Tryz.isAgg5
  z5 := Tryz.sizeOf5
  v5 := Tryz.zeroValue5
  t9 := Tryz.underlying9
  a9 := Tryz.isAgg9
  z9 := Tryz.sizeOf9
  v9 := Tryz.zeroValue9
  t46 := Tryz.underlying132
  a46 := Tryz.isAgg132
  z46 := Tryz.sizeOf132
  v46 := Tryz.zeroValue132
  t51 := Tryz.underlying139
  a51 := Tryz.isAgg139
  z51 := Tryz.sizeOf139
  v51 := Tryz.zeroValue139
  t59 := Tryz.underlying61
  a59 := Tryz.isAgg61
  z59 := Tryz.sizeOf61
  v59 := Tryz.zeroValue61
  t146 := Tryz.underlying151
  a146 := Tryz.isAgg151
  z146 := Tryz.sizeOf151
  v146 := Tryz.zeroValue151
  g1 := by kernel_rfl }
open Go.RowKit Go.Lib in
theorem Tryz.strings_Cut (s sep : ByteArray) (m : Int) (w : World) (hs : s.size < 4294967281) (hm : w.cell? ⟨1, 0, none⟩ = some (.int .i64 m)) :
    Calls Tryz.prog 31 #[.string s, .string sep] w fun e w' => e = .returned (.tuple #[.string ⟨(Lib.cut s.data.toList sep.data.toList).1.toArray⟩, .string ⟨(Lib.cut s.data.toList sep.data.toList).2.1.toArray⟩, .bool (Lib.cut s.data.toList sep.data.toList).2.2]) ∧ ∃ n, w' = w.drewN n := Any.strings_Cut Tryz.lays145 s sep m w hs hm
def Tryz.laysGw17_ren : Go.Shelf.Ren := ⟨fun | 17 => 104 | 15 => 132 | 20 => 147 | n => n, fun | 9 => 9 | 23 => 123 | 4 => 4 | 3 => 3 | 0 => 0 | 21 => 21 | n => n, fun | n => n⟩
theorem Tryz.laysGw17 : Go.Proofs.LaysGw.n17 Tryz.prog Tryz.laysGw17_ren := {
  mixed := by kernel_rfl
  f15 := Tryz.func132.trans (congrArg some (by kernel_rfl))
  f17 := Tryz.func104.trans (congrArg some (by kernel_rfl))
  f20 := Tryz.func147.trans (congrArg some (by kernel_rfl))
  t0 := Tryz.underlying0
  a0 := Tryz.isAgg0
  z0 := Tryz.sizeOf0
  v0 := Tryz.zeroValue0
  i0 := by kernel_rfl
  t3 := Tryz.underlying3
  a3 := Tryz.isAgg3
  z3 := Tryz.sizeOf3
  v3 := Tryz.zeroValue3
  i3 := by kernel_rfl
  t4 := Tryz.underlying4
  a4 := Tryz.isAgg4
  z4 := Tryz.sizeOf4
  v4 := Tryz.zeroValue4
  i4 := by kernel_rfl
  t9 := Tryz.underlying9
  a9 := Tryz.isAgg9
  z9 := Tryz.sizeOf9
  v9 := Tryz.zeroValue9
  i9 := by kernel_rfl
  t21 := Tryz.underlying21
  a21 := Tryz.isAgg21
  z21 := Tryz.sizeOf21
  v21 := Tryz.zeroValue21
  i21 := by kernel_rfl
  t23 := Tryz.underlying123
  a23 := Tryz.isAgg123
  z23 := Tryz.sizeOf123
  v23 := Tryz.zeroValue123
  i23 := by kernel_rfl }
open Go.RowKit Go.Lib in
theorem Tryz.strings_ContainsFunc (g : Nat) (lb : Array Value) (eg : ∀ args w, (callFunc g args).run Tryz.prog w = .ok (.enter g args) w) (p : Nat → Bool) (s : ByteArray) (w : World) (hp : PredAt Tryz.prog g lb encR p w) :
    Calls Tryz.prog 104 #[.string s, .func (.func g) #[] lb] w fun e w' => e = .returned (.bool (decide (0 ≤ Lib.idxFunc p true s))) ∧ Below w.heap.size w w' := Any.strings_ContainsFunc Tryz.laysGw17 g lb eg p s w hp
def Tryz.lays206_ren : Go.Shelf.Ren := ⟨fun | 206 => 128 | n => n, fun | 9 => 9 | 4 => 4 | 3 => 3 | n => n, fun | n => n⟩
theorem Tryz.lays206 : Go.Proofs.Lays.n206 Tryz.prog Tryz.lays206_ren := {
  mixed := by kernel_rfl
  f206 := Tryz.func128.trans (congrArg some (by kernel_rfl))
  t3 := Tryz.underlying3
  a3 := Tryz.isAgg3
  z3 := Tryz.sizeOf3
  v3 := Tryz.zeroValue3
  t4 := Tryz.underlying4
  a4 := Tryz.isAgg4
  z4 := Tryz.sizeOf4
  v4 := Tryz.zeroValue4
  t9 := Tryz.underlying9
  a9 := Tryz.isAgg9
  z9 := Tryz.sizeOf9
  v9 := Tryz.zeroValue9 }
open Go.RowKit Go.Lib in
theorem Tryz.stringslite_HasPrefix (s p : ByteArray) (w : World) :
    Calls Tryz.prog 128 #[.string s, .string p] w fun e w' => e = .returned (.bool (Lib.hasPrefix s.data.toList p.data.toList)) ∧ w' = w := Any.stringslite_HasPrefix Tryz.lays206 s p w
def Tryz.lays146_ren : Go.Shelf.Ren := ⟨fun | 146 => 68 | 221 => 101 | 268 => 129 | 138 => 130 | 143 => 131 | 195 => 145 | 197 => 109 | 218 => 146 | 219 => 92 | 260 => 135 | 217 => 123 | 225 => 124 | 224 => 125 | 267 => 126 | 266 => 143 | 314 => 144 | n => n, fun | 9 => 9 | 31 => 32 | 3 => 3 | 4 => 4 | 0 => 0 | 105 => 127 | 21 => 21 | 5 => 5 | 46 => 132 | 119 => 156 | 139 => 159 | 138 => 158 | 146 => 151 | 51 => 139 | n => n, fun | 1 => 1 | 3 => 4 | 4 => 5 | n => n⟩
theorem Tryz.lays146 : Go.Proofs.Lays.n146 Tryz.prog Tryz.lays146_ren := {
  mixed := by kernel_rfl
  f138 := Tryz.func130.trans (congrArg some (by kernel_rfl))
  f143 := Tryz.func131.trans (congrArg some (by kernel_rfl))
  f146 := Tryz.func68.trans (congrArg some (by kernel_rfl))
  f195 := Tryz.func145.trans (congrArg some (by kernel_rfl))
  f197 := Tryz.func109.trans (congrArg some (by kernel_rfl))
  f217 := Tryz.func123.trans (congrArg some (by kernel_rfl))
  f218 := Tryz.func146.trans (congrArg some (by kernel_rfl))
  f219 := Tryz.func92.trans (congrArg some (by kernel_rfl))
  f221 := Tryz.func101.trans (congrArg some (by kernel_rfl))
  f224 := Tryz.func125.trans (congrArg some (by kernel_rfl))
  f225 := Tryz.func124.trans (congrArg some (by kernel_rfl))
  f260 := Tryz.func135.trans (congrArg some (by kernel_rfl))
  f266 := Tryz.func143.trans (congrArg some (by kernel_rfl))
  f267 := Tryz.func126.trans (congrArg some (by kernel_rfl))
  f268 := Tryz.func129.trans (congrArg some (by kernel_rfl))
  f314 := Tryz.func144.trans (congrArg some (by kernel_rfl))
  t0 := Tryz.underlying0
  a0 := Tryz.isAgg0
  z0 := Tryz.sizeOf0
  v0 := Tryz.zeroValue0
  t3 := Tryz.underlying3
  a3 := Tryz.isAgg3
  z3 := Tryz.sizeOf3
  v3 := Tryz.zeroValue3
  t4 := Tryz.underlying4
  a4 := Tryz.isAgg4
  z4 := Tryz.sizeOf4
  v4 := Tryz.zeroValue4
  t5 := Tryz.underlying5
  a5 := Tryz.isAgg5
  z5 := Tryz.sizeOf5
  v5 := Tryz.zeroValue5
  t9 := Tryz.underlying9
  a9 := Tryz.isAgg9
  z9 := Tryz.sizeOf9
  v9 := Tryz.zeroValue9
  t21 := Tryz.underlying21
  a21 := Tryz.isAgg21
  z21 := Tryz.sizeOf21
  v21 := Tryz.zeroValue21
  t31 := Tryz.underlying32
  a31 := Tryz.isAgg32
  z31 := Tryz.sizeOf32
  v31 := Tryz.zeroValue32
  t46 := Tryz.underlying132
  a46 := Tryz.isAgg132
  z46 := Tryz.sizeOf132
  v46 := Tryz.zeroValue132
  t51 := Tryz.underlying139
  a51 := Tryz.isAgg139
  z51 := Tryz.sizeOf139
  v51 := Tryz.zeroValue139
  t105 := Tryz.underlying127
  a105 := Tryz.isAgg127
  z105 := Tryz.sizeOf127
  v105 := Tryz.zeroValue127
  t119 := Tryz.underlying156
  a119 := Tryz.isAgg156
  z119 := Tryz.sizeOf156
  t138 := Tryz.underlying158
  a138 := Tryz.isAgg158
  z138 := Tryz.sizeOf158
  v138 := Tryz.zeroValue158
  t139 := Tryz.underlying159
  a139 := Tryz.isAgg159
  z139 := Tryz.sizeOf159
  v139 := Tryz.zeroValue159
  t146 := Tryz.underlying151
  a146 := Tryz.isAgg151
  z146 := Tryz.sizeOf151
  v146 := Tryz.zeroValue151
  g1 := by kernel_rfl
  g3 := by kernel_rfl
  g4 := by kernel_rfl }
open Go.RowKit Go.Lib in
theorem Tryz.strings_Split (s sep : ByteArray) (m : Int) (w : World) (hs : s.size < 4294967281) (hm : w.cell? ⟨1, 0, none⟩ = some (.int .i64 m)) (h1 : 1 ≤ sep.size) :
    Calls Tryz.prog 68 #[.string s, .string sep] w fun e w' =>
      e = .returned (.slice (some ⟨w.heap.size, 0, none⟩) (Lib.countB s sep + 1) (Lib.countB s sep + 1)) ∧ w' = w.alloc (.cells ((Lib.splitB sep 0 (Lib.countB s sep) s).map Value.string).toArray 9) := Any.strings_Split Tryz.lays146 (by kernel_rfl) s sep m w hs hm h1
def Tryz.lays166_ren : Go.Shelf.Ren := ⟨fun | 166 => 27 | 240 => 55 | 276 => 87 | n => n, fun | 0 => 0 | 3 => 3 | 4 => 4 | 5 => 5 | 9 => 9 | 20 => 20 | 37 => 23 | 70 => 52 | 72 => 54 | 75 => 56 | 80 => 60 | 164 => 111 | n => n, fun | n => n⟩
theorem Tryz.lays166 : Go.Proofs.Lays.n166 Tryz.prog Tryz.lays166_ren := {
  mixed := by kernel_rfl
  f166 := Tryz.func27.trans (congrArg some (by kernel_rfl))
  f240 := Tryz.func55.trans (congrArg some (by kernel_rfl))
  f276 := Tryz.func87.trans (congrArg some (by kernel_rfl))
  t0 := Tryz.underlying0
  a0 := Tryz.isAgg0
  z0 := Tryz.sizeOf0
  v0 := Tryz.zeroValue0
  t3 := Tryz.underlying3
  a3 := Tryz.isAgg3
  z3 := Tryz.sizeOf3
  v3 := Tryz.zeroValue3
  t4 := Tryz.underlying4
  a4 := Tryz.isAgg4
  z4 := Tryz.sizeOf4
  v4 := Tryz.zeroValue4
  t9 := Tryz.underlying9
  a9 := Tryz.isAgg9
  z9 := Tryz.sizeOf9
  v9 := Tryz.zeroValue9
  t20 := Tryz.underlying20
  a20 := Tryz.isAgg20
  z20 := Tryz.sizeOf20
  v20 := Tryz.zeroValue20
  t37 := Tryz.underlying23
  a37 := Tryz.isAgg23
  z37 := Tryz.sizeOf23
  v37 := Tryz.zeroValue23
  t70 := Tryz.underlying52
  a70 := Tryz.isAgg52
  z70 := Tryz.sizeOf52
  v70 := Tryz.zeroValue52
  t72 := Tryz.underlying54
  a72 := Tryz.isAgg54
  z72 := Tryz.sizeOf54
  v72 := Tryz.zeroValue54
  t75 := Tryz.underlying56
  a75 := Tryz.isAgg56
  z75 := Tryz.sizeOf56
  v75 := Tryz.zeroValue56
  t164 := Tryz.underlying111
  a164 := Tryz.isAgg111
  z164 := Tryz.sizeOf111
  v164 := Tryz.zeroValue111 }
theorem Tryz.Builder_Extra_166 : Builder.Extra Tryz.prog Tryz.lays166_ren := {
  sizeBuilder := by kernel_rfl
  liesBuilder := by kernel_rfl
  t5 := Tryz.underlying5
  a5 := Tryz.isAgg5
  z5 := Tryz.sizeOf5
  v5 := Tryz.zeroValue5
  infoByte := by kernel_rfl
  cellsByte := by kernel_rfl
  sizeByte := by kernel_rfl
  neB5 := by decide }
open Go.RowKit in
theorem Tryz.Builder_WriteString_k (B b : Nat) (bs : List Value) (s : ByteArray) (w : World) (h : Lib.IsBuilderF 54 5 B b bs w) (hlen : bs.length + s.size ≤ 140737488355328) (hBw : B ≤ w.heap.size) :
    Calls Tryz.prog 27 #[.pointer (some ⟨b, 0, none⟩), .string s] w fun e w' => e = .returned (.tuple #[.int .i64 s.size, .nilIface]) ∧ (Lib.BuilderAtF 54 5 B b (.pointer (some ⟨b, 0, none⟩)) (bs ++ Lib.strCells s) w' ∧ Below B w w' ∧ Lib.OthersKept 5 (some b) w w') := Any.Builder_WriteString_k Tryz.lays166 Tryz.Builder_Extra_166 B b bs s w h hlen hBw
def Tryz.lays167_ren : Go.Shelf.Ren := ⟨fun | 167 => 48 | 240 => 55 | 276 => 87 | n => n, fun | 0 => 0 | 4 => 4 | 5 => 5 | 9 => 9 | 20 => 20 | 37 => 23 | 70 => 52 | 72 => 54 | 75 => 56 | 80 => 60 | 164 => 111 | n => n, fun | n => n⟩
theorem Tryz.lays167 : Go.Proofs.Lays.n167 Tryz.prog Tryz.lays167_ren := {
  mixed := by kernel_rfl
  f167 := Tryz.func48.trans (congrArg some (by kernel_rfl))
  f240 := Tryz.func55.trans (congrArg some (by kernel_rfl))
  f276 := Tryz.func87.trans (congrArg some (by kernel_rfl))
  t0 := Tryz.underlying0
  a0 := Tryz.isAgg0
  z0 := Tryz.sizeOf0
  v0 := Tryz.zeroValue0
  t4 := Tryz.underlying4
  a4 := Tryz.isAgg4
  z4 := Tryz.sizeOf4
  v4 := Tryz.zeroValue4
  t5 := Tryz.underlying5
  a5 := Tryz.isAgg5
  z5 := Tryz.sizeOf5
  v5 := Tryz.zeroValue5
  t9 := Tryz.underlying9
  a9 := Tryz.isAgg9
  z9 := Tryz.sizeOf9
  v9 := Tryz.zeroValue9
  t20 := Tryz.underlying20
  a20 := Tryz.isAgg20
  z20 := Tryz.sizeOf20
  v20 := Tryz.zeroValue20
  t37 := Tryz.underlying23
  a37 := Tryz.isAgg23
  z37 := Tryz.sizeOf23
  v37 := Tryz.zeroValue23
  t70 := Tryz.underlying52
  a70 := Tryz.isAgg52
  z70 := Tryz.sizeOf52
  v70 := Tryz.zeroValue52
  t72 := Tryz.underlying54
  a72 := Tryz.isAgg54
  z72 := Tryz.sizeOf54
  v72 := Tryz.zeroValue54
  t75 := Tryz.underlying56
  a75 := Tryz.isAgg56
  z75 := Tryz.sizeOf56
  v75 := Tryz.zeroValue56
  t164 := Tryz.underlying111
  a164 := Tryz.isAgg111
  z164 := Tryz.sizeOf111
  v164 := Tryz.zeroValue111 }
theorem Tryz.Builder_Extra_167 : Builder.Extra Tryz.prog Tryz.lays167_ren := {
  sizeBuilder := by kernel_rfl
  liesBuilder := by kernel_rfl
  t5 := Tryz.underlying5
  a5 := Tryz.isAgg5
  z5 := Tryz.sizeOf5
  v5 := Tryz.zeroValue5
  infoByte := by kernel_rfl
  cellsByte := by kernel_rfl
  sizeByte := by kernel_rfl
  neB5 := by decide }
open Go.RowKit in
theorem Tryz.Builder_WriteByte_k (B b : Nat) (bs : List Value) (c : Int) (w : World) (h : Lib.IsBuilderF 54 5 B b bs w) (hlen : bs.length + 1 ≤ 140737488355328) (hBw : B ≤ w.heap.size) :
    Calls Tryz.prog 48 #[.pointer (some ⟨b, 0, none⟩), .int .u8 c] w fun e w' => e = .returned .nilIface ∧ (Lib.BuilderAtF 54 5 B b (.pointer (some ⟨b, 0, none⟩)) (bs ++ [.int .u8 c]) w' ∧ Below B w w' ∧ Lib.OthersKept 5 (some b) w w') := Any.Builder_WriteByte_k Tryz.lays167 Tryz.Builder_Extra_167 B b bs c w h hlen hBw
end Go.Proofs
/- Glob -/
namespace Go.Proofs.YteonhdfjfjpbjaaGreatDoor.O
open Go.RowKit Go.Proofs.YteonhdfjfjpbjaaGreatDoorW.PrintWords Go.Proofs.YteonhdfjfjpbjaaGreatDoorW.PrintLast Go.Proofs.YteonhdfjfjpbjaaGreatDoorW.PrintMore
set_option linter.unusedVariables false
set_option linter.unusedSimpArgs false
structure Glob (w : World) : Prop where
  pow : Lib.TabIs Tryz.prog w "internal/strconv.uint64pow10" .u64 Lib.pow10Tab
  mlen : ∃ m, w.var? Tryz.prog "internal/bytealg.MaxLen" = some #[.int .i64 m]
  syn : ∃ t p, w.var? Tryz.prog "strconv.ErrSyntax" = some #[.iface t p]
  rng : ∃ t p, w.var? Tryz.prog "strconv.ErrRange" = some #[.iface t p]
  bru : Lib.TabIs Tryz.prog w "math/bits.deBruijn64tab" .u8 (Lib.deBruijn64tab.map Int.ofNat)
theorem gpow : Tryz.prog.globalNamed "internal/strconv.uint64pow10" = some 0 := by kernel_rfl
theorem gmlen : Tryz.prog.globalNamed "internal/bytealg.MaxLen" = some 1 := by kernel_rfl
theorem gsyn : Tryz.prog.globalNamed "strconv.ErrSyntax" = some 2 := by kernel_rfl
theorem grng : Tryz.prog.globalNamed "strconv.ErrRange" = some 3 := by kernel_rfl
theorem gbru : Tryz.prog.globalNamed "math/bits.deBruijn64tab" = some 7 := by kernel_rfl
theorem Glob.below {w w' : World} (h : Glob w) (hb : Below w.heap.size w w') : Glob w' := by
  obtain ⟨h1, ⟨m, h2⟩, ⟨t3, p3, h3⟩, ⟨t4, p4, h4⟩, h5⟩ := h
  exact ⟨Joins.var_stays gpow h1 hb (Nat.le_refl _), ⟨m, Joins.var_stays gmlen h2 hb (Nat.le_refl _)⟩, ⟨t3, p3, Joins.var_stays gsyn h3 hb (Nat.le_refl _)⟩, ⟨t4, p4, Joins.var_stays grng h4 hb (Nat.le_refl _)⟩, Joins.var_stays gbru h5 hb (Nat.le_refl _)⟩
theorem Glob.cell {w : World} (h : Glob w) : ∃ m, w.cell? ⟨1, 0, none⟩ = some (.int .i64 m) := by
  obtain ⟨m, hm⟩ := h.mlen
  exact ⟨m, by have h0 := World.var?_cell gmlen hm 0; simpa using h0⟩
/-- An error of the library's: none, or some interface value. -/
def ErrIs : Option Int → Value → Prop
  | none, v => v = .nilIface
  | some _, v => ∃ t p, v = .iface t p
theorem ErrIs.none_ {v : Value} (h : ErrIs none v) : v = .nilIface := h
theorem ErrIs.some_ {c : Int} {v : Value} (h : ErrIs (some c) v) : ∃ t p, v = .iface t p := h
theorem below_bytes (w : World) (e : TypeId) (s : ByteArray) : Below w.heap.size w (Lib.bytesWorld w e s) :=
  ⟨rfl, rfl, rfl, by rw [Lib.bytesWorld_size]; omega, fun i hi => Lib.bytesWorld_at_old w e s i hi⟩
theorem bt_getD (s : ByteArray) (k : Nat) (h : k < s.size) : ((s.data.toList.getD k 0).toNat : Int) = bt s k := by
  unfold bt
  have h2 : k < s.data.size := h
  simp [h, List.getD_eq_getElem?_getD]
  rfl
theorem ret_str {a b : ByteArray} (h : a = b) : Ending.returned (.string a) = .returned (.string b) := by rw [h]
theorem ret_bool {a b : Bool} (h : a = b) : Ending.returned (.bool a) = .returned (.bool b) := by rw [h]
def atoiF (l : List UInt8) : Int × Option Int := match Lib.atoiAll l with
  | .ok v => (v, none)
  | Lib.NumEnd.syntax => (0, some 0)
  | .range => (Lib.atoiSat l, some 1)
def strconv_Atoi.f (a0 : ByteArray) : Option (Int × Option Int) := if a0.size ≤ 281474976710656 then some (atoiF a0.data.toList) else none
theorem strconv_Atoi.calls (a0 : ByteArray) (r1 : Int) (r2 : Option Int) (w : World) (hG : Glob w) (h : strconv_Atoi.f a0 = some (r1, r2)) :
    Calls Tryz.prog 107 #[.string a0] w fun e w' => ∃ pv, ErrIs r2 pv ∧ e = .returned (.tuple #[.int .i64 r1, pv]) ∧ Below w.heap.size w w' := by
  unfold strconv_Atoi.f at h
  split at h
  case isFalse => exact absurd h zb25
  rename_i hb
  have h' := Option.some.inj h
  unfold atoiF at h'
  split at h'
  · rename_i v hv
    obtain ⟨rfl, rfl⟩ := Prod.mk.inj h'
    refine (Tryz.strconv_Atoi_ok a0 zb17 v hv w).mono ?_
    rintro e w' ⟨rfl, rfl | ⟨t, rfl⟩⟩
    · exact ⟨_, rfl, rfl, Below.refl _ _⟩
    · exact ⟨_, rfl, rfl, below_bytes _ _ _⟩
  · rename_i hv
    obtain ⟨rfl, rfl⟩ := Prod.mk.inj h'
    obtain ⟨t, p, hs⟩ := hG.syn
    refine (Tryz.strconv_Atoi_syntax_var a0 hb hv t p w hs).mono ?_
    rintro e w' ⟨n, rfl, _, _, hbel⟩
    exact ⟨_, ⟨_, _, rfl⟩, rfl, hbel⟩
  · rename_i hv
    obtain ⟨rfl, rfl⟩ := Prod.mk.inj h'
    obtain ⟨t, p, hs⟩ := hG.rng
    refine (Tryz.strconv_Atoi_range_var a0 hb hv t p w hs).mono ?_
    rintro e w' ⟨n, rfl, _, _, hbel⟩
    exact ⟨_, ⟨_, _, rfl⟩, rfl, hbel⟩
def asciiB (s : ByteArray) : Bool := s.data.toList.all fun b => decide (b.toNat < 128)
def strings_TrimLeft.f (a0 a1 : ByteArray) : Option ByteArray := if a1.size < 4294967281 ∧ asciiB a1 = true then some ⟨(Lib.trimLeftS a0.data.toList a1.data.toList).toArray⟩ else none
theorem strings_TrimLeft.calls (a0 a1 : ByteArray) (r : ByteArray) (w : World) (h : strings_TrimLeft.f a0 a1 = some r) :
    Calls Tryz.prog 58 #[.string a0, .string a1] w fun e w' => e = .returned (.string r) ∧ Below w.heap.size w w' := by
  unfold strings_TrimLeft.f at h
  split at h
  case isFalse => exact absurd h zb25
  rename_i hb
  obtain rfl := Option.some.inj h
  exact Any.strings_TrimLeft_laid Tryz.lays161 zb15 a0 a1 w hb.1 (ascii_of_all hb.2)
def strings_Trim.f (a0 a1 : ByteArray) : Option ByteArray := if a0.size ≤ 9223372036854775807 ∧ a1.size < 4294967281 ∧ asciiB a1 = true then some ⟨(Lib.trimS a0.data.toList a1.data.toList).toArray⟩ else none
theorem strings_Trim.calls (a0 a1 : ByteArray) (r : ByteArray) (w : World) (h : strings_Trim.f a0 a1 = some r) :
    Calls Tryz.prog 46 #[.string a0, .string a1] w fun e w' => e = .returned (.string r) ∧ Below w.heap.size w w' := by
  unfold strings_Trim.f at h
  split at h
  case isFalse => exact absurd h zb25
  rename_i hb
  obtain rfl := Option.some.inj h
  exact Any.strings_Trim_laid Tryz.lays160 zb15 a0 a1 w hb.1 hb.2.1 (ascii_of_all hb.2.2)
theorem below_drewN_ (w : World) (n : Nat) : Below w.heap.size w (w.drewN n) := ⟨rfl, rfl, rfl, Nat.le_refl _, fun _ _ => rfl⟩
def cutF (s sep : ByteArray) : ByteArray × ByteArray × Bool := (⟨(Lib.cut s.data.toList sep.data.toList).1.toArray⟩, ⟨(Lib.cut s.data.toList sep.data.toList).2.1.toArray⟩, (Lib.cut s.data.toList sep.data.toList).2.2)
def strings_Cut.f (a0 a1 : ByteArray) : Option (ByteArray × ByteArray × Bool) := if a0.size < 4294967281 then some (cutF a0 a1) else none
theorem strings_Cut.calls (a0 a1 : ByteArray) (r1 r2 : ByteArray) (r3 : Bool) (w : World) (hG : Glob w) (h : strings_Cut.f a0 a1 = some (r1, r2, r3)) :
    Calls Tryz.prog 31 #[.string a0, .string a1] w fun e w' => e = .returned (.tuple #[.string r1, .string r2, .bool r3]) ∧ Below w.heap.size w w' := by
  unfold strings_Cut.f at h
  split at h
  case isFalse => exact absurd h zb25
  rename_i hb
  have h' := Option.some.inj h
  unfold cutF at h'
  obtain ⟨e1, e23⟩ := Prod.mk.inj h'
  obtain ⟨e2, e3⟩ := Prod.mk.inj e23
  subst e1; subst e2; subst e3
  obtain ⟨m, hm⟩ := hG.cell
  refine (Tryz.strings_Cut a0 a1 m w hb hm).mono ?_
  rintro e w' ⟨rfl, n, rfl⟩
  exact ⟨rfl, below_drewN_ _ _⟩
def strings_IndexByte.f (a0 : ByteArray) (a1 : Int) : Option Int := some (Lib.indexByte a0.data.toList a1.toNat.toUInt8)
theorem strings_IndexByte.calls (a0 : ByteArray) (a1 : Int) (r : Int) (w : World) (h : strings_IndexByte.f a0 a1 = some r) :
    Calls Tryz.prog 105 #[.string a0, .int .u8 a1] w fun e w' => e = .returned (.int .i64 r) ∧ Drawn0 w w' := by
  obtain rfl := Option.some.inj h
  refine (Tryz.strings_IndexByte a0 a1 w).mono ?_
  rintro e w' ⟨rfl, rfl⟩
  exact ⟨rfl, Drawn0.refl _⟩
end Go.Proofs.YteonhdfjfjpbjaaGreatDoor.O
/- Px2 -/
namespace Go.Proofs.YteonhdfjfjpbjaaGreatDoor.P
open Go.Proofs.YteonhdfjfjpbjaaGreatDoor.B
open Go.RowKit Go.Proofs.YteonhdfjfjpbjaaGreatDoorW.PrintWords Go.Proofs.YteonhdfjfjpbjaaGreatDoorW.PrintLast Go.Proofs.YteonhdfjfjpbjaaGreatDoorW.PrintMore
attribute [local go_sem] str_leq str_gtr str_geq max2_int min2_int max_two min_two max_three min_three max_four min_four
set_option linter.unusedVariables false
set_option linter.unusedSimpArgs false
open Go.Proofs.YteonhdfjfjpbjaaGreatDoor.O
def media_Text_Token.l0 : Nat → Int → ByteArray → Option (ByteArray × ByteArray)
  | 0, _, _ => none
  | k + 1, x3, x1000 => if x3 < (x1000.size : Int) then (if 0 ≤ x3 then ((strings_IndexByte.f (⟨#[48, 49, 50, 51, 52, 53, 54, 55, 56, 57, 65, 66, 67, 68, 69, 70, 71, 72, 73, 74, 75, 76, 77, 78, 79, 80, 81, 82, 83, 84, 85, 86, 87, 88, 89, 90, 97, 98, 99, 100, 101, 102, 103, 104, 105, 106, 107, 108, 109, 110, 111, 112, 113, 114, 115, 116, 117, 118, 119, 120, 121, 122, 33, 35, 36, 37, 38, 39, 42, 43, 45, 46, 94, 95, 96, 124, 126]⟩ : ByteArray) (bt x1000 x3)).bind fun t101 => (if t101 ≥ 0 then (media_Text_Token.l0 k (wrap64 (x3 + 1)) x1000) else (if x3 ≤ (x1000.size : Int) then (some (x1000.extract 0 (x3 : Int).toNat, x1000.extract (x3 : Int).toNat x1000.size)) else (none)))) else (none)) else (if 0 ≤ x3 then (if x3 ≤ (x1000.size : Int) then (some (x1000.extract 0 (x3 : Int).toNat, x1000.extract (x3 : Int).toNat x1000.size)) else (none)) else (none))
def media_Text_Token.f (k : Nat) (s0_0 : ByteArray) : Option (ByteArray × ByteArray) := media_Text_Token.l0 k 0 s0_0
set_option maxHeartbeats 8000000 in
set_option maxRecDepth 100000 in
theorem media_Text_Token.calls (k : Nat) (g : Nat) (s0_0 : ByteArray) (r1 : ByteArray) (r2 : ByteArray) (w0 w : World) (hI : IsS90 w0 w g s0_0) (hB : Below w0.heap.size w0 w) (h : media_Text_Token.f k s0_0 = some (r1, r2)) :
  Calls Tryz.prog 70 #[.pointer (some ⟨g, 0, none⟩)] w fun e w' => e = .returned (.string r1) ∧ IsS90 w0 w' g r2 ∧ Below w0.heap.size w0 w' ∧ KeepBut w w' g none := by
 have HI0 := Aside0.mk hI
 have HK := Aside0.mk (KeepBut.refl w g none)
 have HL := Aside0.mk hB.size
 clear hI
 have HW0 := Aside0.mk hB.size
 have HB := Aside0.mk hB
 clear hB
 have H : (media_Text_Token.l0 k 0 s0_0) = some (r1, r2) := h
 clear h
 have H' := Aside0.mk H
 clear H
 go_enter Tryz.func70, Tryz.ntmps70
 go_wp2
 first | go_loopg [3] k (fun kq v3 w' => ∃ (x3_1 : Int), v3 = .int .i64 x3_1 ∧ Aside0 (media_Text_Token.l0 kq x3_1 s0_0 = some (r1, r2)) ∧ Aside0 (kq ≤ k) ∧ Aside0 (IsS90 w0 w' g s0_0) ∧ Aside0 (KeepBut w w' g none) ∧ Aside0 (Below w0.heap.size w0 w')) | (go_simp; go_loopg [3] k (fun kq v3 w' => ∃ (x3_1 : Int), v3 = .int .i64 x3_1 ∧ Aside0 (media_Text_Token.l0 kq x3_1 s0_0 = some (r1, r2)) ∧ Aside0 (kq ≤ k) ∧ Aside0 (IsS90 w0 w' g s0_0) ∧ Aside0 (KeepBut w w' g none) ∧ Aside0 (Below w0.heap.size w0 w')))
 case atStart => exact ⟨(0), zb6, H', ⟨Nat.le_refl _⟩, ⟨by repeat (first | (with_reducible first | exact HI0.out | apply IsS90.alloc | apply IsS90.drewN | apply IsS90.drew | apply IsS90.set_0) | exact HI0.out)⟩, ⟨by repeat (first | (with_reducible first | exact HK.out | apply KeepBut.set_ | apply keep_drewN | apply keep_drew | apply keep_alloc) | exact HK.out)⟩, ⟨by repeat (first | (with_reducible first | exact HB.out | apply below_alloc | apply pw_below_drewN | apply below_drew1 | refine below_set ?_ (IsS90.ge HI0.out)) | exact HB.out)⟩⟩
 case round =>
  clear H'
  obtain ⟨x3_1, rfl, HA, HK1, HI0, HK, HB⟩ := hrel
  cases gk with
  | zero => exact absurd HA.out (by simp [media_Text_Token.l0])
  | succ k1 =>
   have H := HA.out
   clear HA
   simp only [media_Text_Token.l0] at H
   by_cases c2 : x3_1 < (s0_0.size : Int)
   ·rw [if_pos c2] at H
    have c2b0 : decide (x3_1 < (s0_0.size : Int)) = true := decide_eq_true c2
    clear c2
    by_cases c3 : 0 ≤ x3_1
    ·rw [if_pos c3] at H
     have c3b0 : decide (0 ≤ x3_1) = true := decide_eq_true c3
     clear c3
     replace H := Option.bind_eq_some_iff.mp H
     obtain ⟨t101, A50, H⟩ := H
     replace H : (if t101 ≥ 0 then (media_Text_Token.l0 k1 (wrap64 (x3_1 + 1)) s0_0) else (if x3_1 ≤ (s0_0.size : Int) then (some (s0_0.extract 0 (x3_1 : Int).toNat, s0_0.extract (x3_1 : Int).toNat s0_0.size)) else (none))) = some (r1, r2) := H
     have A5 := Aside0.mk A50
     clear A50
     by_cases c6 : t101 ≥ 0
     ·rw [if_pos c6] at H
      have c6b0 : decide (0 ≤ t101) = true := decide_eq_true c6
      clear c6
      have H' := Aside0.mk H
      clear H
      obtain ⟨HGz7, hgz7⟩ := HI0.out
      have hcz7_0 := cellS90_0 HGz7
      have hfz7_0 := blk_frozen HGz7 0
      clear HGz7 hgz7
      have p4 : 0 ≤ (x3_1 : Int) := of_decide_eq_true zb2
      have q4 : x3_1 < (s0_0.size : Int) := of_decide_eq_true zb2
      have hx4 := bt_at s0_0 x3_1
      replace p4 := eq_true p4
      replace q4 := eq_true q4
      go_wp2_with (first | (go_at_call 105; (with_reducible refine (strings_IndexByte.calls (⟨#[48, 49, 50, 51, 52, 53, 54, 55, 56, 57, 65, 66, 67, 68, 69, 70, 71, 72, 73, 74, 75, 76, 77, 78, 79, 80, 81, 82, 83, 84, 85, 86, 87, 88, 89, 90, 97, 98, 99, 100, 101, 102, 103, 104, 105, 106, 107, 108, 109, 110, 111, 112, 113, 114, 115, 116, 117, 118, 119, 120, 121, 122, 33, 35, 36, 37, 38, 39, 42, 43, 45, 46, 94, 95, 96, 124, 126]⟩ : ByteArray) (bt s0_0 x3_1) t101 _ A5.out).mono ?_); rintro e w' ⟨rfl, ⟨nd, rfl⟩⟩))
      go_roundg k1
      case measure => have := HK1.out; omega
      case rel => exact ⟨(wrap64 (x3_1 + 1)), zb6, H', ⟨by have := HK1.out; omega⟩, ⟨by repeat (first | (with_reducible first | exact HI0.out | apply IsS90.alloc | apply IsS90.drewN | apply IsS90.drew | apply IsS90.set_0) | exact HI0.out)⟩, ⟨by repeat (first | (with_reducible first | exact HK.out | apply KeepBut.set_ | apply keep_drewN | apply keep_drew | apply keep_alloc) | exact HK.out)⟩, ⟨by repeat (first | (with_reducible first | exact HB.out | apply below_alloc | apply pw_below_drewN | apply below_drew1 | refine below_set ?_ (IsS90.ge HI0.out)) | exact HB.out)⟩⟩
     ·rw [if_neg c6] at H
      have c6b0 : decide (0 ≤ t101) = false := decide_eq_false c6
      clear c6
      have c8b0 := eq_true (of_decide_eq_true zb2 : 0 ≤ x3_1)
      by_cases c9 : x3_1 ≤ (s0_0.size : Int)
      ·rw [if_pos c9] at H
       have c9b0 := eq_true c9
       have c9b1 : decide (x3_1 ≤ (s0_0.size : Int)) = true := decide_eq_true c9
       clear c9
       have c10b0 := eq_true (of_decide_eq_true zb2 : 0 ≤ x3_1)
       have c11b0 := eq_true (of_decide_eq_true zb2 : x3_1 ≤ (s0_0.size : Int))
       simp only [Option.some.injEq, Prod.mk.injEq] at H
       obtain ⟨rfl, rfl⟩ := H
       obtain ⟨HGz12, hgz12⟩ := HI0.out
       have hcz12_0 := cellS90_0 HGz12
       have hfz12_0 := blk_frozen HGz12 0
       clear HGz12 hgz12
       have p4 : 0 ≤ (x3_1 : Int) := of_decide_eq_true zb2
       have q4 : x3_1 < (s0_0.size : Int) := of_decide_eq_true zb2
       have hx4 := bt_at s0_0 x3_1
       replace p4 := eq_true p4
       replace q4 := eq_true q4
       go_wp2_with (first | (go_at_call 105; (with_reducible refine (strings_IndexByte.calls (⟨#[48, 49, 50, 51, 52, 53, 54, 55, 56, 57, 65, 66, 67, 68, 69, 70, 71, 72, 73, 74, 75, 76, 77, 78, 79, 80, 81, 82, 83, 84, 85, 86, 87, 88, 89, 90, 97, 98, 99, 100, 101, 102, 103, 104, 105, 106, 107, 108, 109, 110, 111, 112, 113, 114, 115, 116, 117, 118, 119, 120, 121, 122, 33, 35, 36, 37, 38, 39, 42, 43, 45, 46, 94, 95, 96, 124, 126]⟩ : ByteArray) (bt s0_0 x3_1) t101 _ A5.out).mono ?_); rintro e w' ⟨rfl, ⟨nd, rfl⟩⟩; (try (rw [drewN_self wr]; generalize hq_ : World.drewN wr _ = wr; have n0_ : Aside0 (IsS90 w0 wr g s0_0) := ⟨by rw [← hq_]; exact zb33⟩; have n1_ : Aside0 (KeepBut w wr g none) := ⟨by rw [← hq_]; exact zb9⟩; have n2_ : Aside0 (Below w0.heap.size w0 wr) := ⟨by rw [← hq_]; exact zb28⟩; (try replace hcz12_0 := cell_undrew hq_ hcz12_0); (try replace hfz12_0 := froz_undrew hq_ hfz12_0); (try replace hcz12_1 := cell_undrew hq_ hcz12_1); (try replace hfz12_1 := froz_undrew hq_ hfz12_1); (try replace hcz12_2 := cell_undrew hq_ hcz12_2); (try replace hfz12_2 := froz_undrew hq_ hfz12_2); (try replace hcz12_3 := cell_undrew hq_ hcz12_3); (try replace hfz12_3 := froz_undrew hq_ hfz12_3); clear HI0 HK HB hq_; have HI0 := n0_; have HK := n1_; have HB := n2_; clear n0_ n1_ n2_))))
       go_ret
       exact ⟨zb4, by repeat (first | (with_reducible first | exact HI0.out | apply IsS90.alloc | apply IsS90.drewN | apply IsS90.drew | apply IsS90.set_0) | exact HI0.out), by repeat (first | (with_reducible first | exact HB.out | apply below_alloc | apply pw_below_drewN | apply below_drew1 | refine below_set ?_ (IsS90.ge HI0.out)) | exact HB.out), by repeat (first | (with_reducible first | exact HK.out | apply KeepBut.set_ | apply keep_drewN | apply keep_drew | apply keep_alloc) | exact HK.out)⟩
      ·rw [if_neg c9] at H
       exact absurd H zb25
    ·rw [if_neg c3] at H
     exact absurd H zb25
   ·rw [if_neg c2] at H
    have c2b0 : decide (x3_1 < (s0_0.size : Int)) = false := decide_eq_false c2
    clear c2
    by_cases c13 : 0 ≤ x3_1
    ·rw [if_pos c13] at H
     have c13b0 := eq_true c13
     have c13b1 : decide (0 ≤ x3_1) = true := decide_eq_true c13
     clear c13
     by_cases c14 : x3_1 ≤ (s0_0.size : Int)
     ·rw [if_pos c14] at H
      have c14b0 := eq_true c14
      have c14b1 : decide (x3_1 ≤ (s0_0.size : Int)) = true := decide_eq_true c14
      clear c14
      have c15b0 := eq_true (of_decide_eq_true zb2 : 0 ≤ x3_1)
      have c16b0 := eq_true (of_decide_eq_true zb2 : x3_1 ≤ (s0_0.size : Int))
      simp only [Option.some.injEq, Prod.mk.injEq] at H
      obtain ⟨rfl, rfl⟩ := H
      obtain ⟨HGz17, hgz17⟩ := HI0.out
      have hcz17_0 := cellS90_0 HGz17
      have hfz17_0 := blk_frozen HGz17 0
      clear HGz17 hgz17
      go_wp2
      go_ret
      exact ⟨zb4, by repeat (first | (with_reducible first | exact HI0.out | apply IsS90.alloc | apply IsS90.drewN | apply IsS90.drew | apply IsS90.set_0) | exact HI0.out), by repeat (first | (with_reducible first | exact HB.out | apply below_alloc | apply pw_below_drewN | apply below_drew1 | refine below_set ?_ (IsS90.ge HI0.out)) | exact HB.out), by repeat (first | (with_reducible first | exact HK.out | apply KeepBut.set_ | apply keep_drewN | apply keep_drew | apply keep_alloc) | exact HK.out)⟩
     ·rw [if_neg c14] at H
      exact absurd H zb25
    ·rw [if_neg c13] at H
     exact absurd H zb25
def media_Text_Skip.f (s0_0 : ByteArray) : Option (ByteArray) := (strings_TrimLeft.f s0_0 (⟨#[32, 9]⟩ : ByteArray)).bind fun t102 => (some t102)
set_option maxHeartbeats 8000000 in
set_option maxRecDepth 100000 in
theorem media_Text_Skip.calls (g : Nat) (s0_0 : ByteArray) (r : ByteArray) (w0 w : World) (hI : IsS90 w0 w g s0_0) (hB : Below w0.heap.size w0 w) (h : media_Text_Skip.f s0_0 = some r) :
  Calls Tryz.prog 93 #[.pointer (some ⟨g, 0, none⟩)] w fun e w' => e = .returned (.tuple #[]) ∧ IsS90 w0 w' g r ∧ Below w0.heap.size w0 w' ∧ KeepBut w w' g none := by
 have HI0 := Aside0.mk hI
 have HK := Aside0.mk (KeepBut.refl w g none)
 have HL := Aside0.mk hB.size
 clear hI
 have HW0 := Aside0.mk hB.size
 have HB := Aside0.mk hB
 clear hB
 have H : ((strings_TrimLeft.f s0_0 (⟨#[32, 9]⟩ : ByteArray)).bind fun t102 => (some t102)) = some r := h
 clear h
 replace H := Option.bind_eq_some_iff.mp H
 obtain ⟨t102, A20, H⟩ := H
 replace H : (some t102) = some r := H
 have A2 := Aside0.mk A20
 clear A20
 obtain rfl := Option.some.inj H
 obtain ⟨HGz3, hgz3⟩ := HI0.out
 have hcz3_0 := cellS90_0 HGz3
 have hfz3_0 := blk_frozen HGz3 0
 clear HGz3 hgz3
 go_enter Tryz.func93, Tryz.ntmps93
 go_wp2_with (first | ((with_reducible refine gate_callee (f := 58) rfl ?_); refine goesL_ (some 6) rfl rfl Tryz.func58 zb15 rfl #[.string s0_0, .string (⟨#[32, 9]⟩ : ByteArray)] rfl zb1 ?_; (with_reducible refine (strings_TrimLeft.calls s0_0 (⟨#[32, 9]⟩ : ByteArray) t102 _ A2.out).mono ?_); rintro e w4 ⟨rfl, hb⟩; refine ⟨_, rfl, ?_⟩; have n0_ := Aside0.mk (IsS90.below zb33 hb); have n1_ := Aside0.mk (KeepBut.trans zb9 (KeepBut.of_below hb g none) (.inl rfl)); have n2_ := Aside0.mk (below_step zb28 hb); clear HI0; clear HK; clear HB; have HI0 := n0_; have HK := n1_; have HB := n2_; clear n0_ n1_ n2_; (try clear hb); (try clear hb2); (try clear hk); (try clear hi); obtain ⟨HGz5, hgz5⟩ := HI0.out; have hcz5_0 := cellS90_0 HGz5; have hfz5_0 := blk_frozen HGz5 0; clear HGz5 hgz5))
 first | go_end0 | ((try simp only [Exit.inBlock, Exit.then]); refine bodyPost_ret (results_none rfl _ _ _) rfl ?_)
 exact ⟨zb4, by repeat (first | (with_reducible first | exact HI0.out | apply IsS90.alloc | apply IsS90.drewN | apply IsS90.drew | apply IsS90.set_0) | exact HI0.out), by repeat (first | (with_reducible first | exact HB.out | apply below_alloc | apply pw_below_drewN | apply below_drew1 | refine below_set ?_ (IsS90.ge HI0.out)) | exact HB.out), by repeat (first | (with_reducible first | exact HK.out | apply KeepBut.set_ | apply keep_drewN | apply keep_drew | apply keep_alloc) | exact HK.out)⟩
end Go.Proofs.YteonhdfjfjpbjaaGreatDoor.P
/- Px4 -/
namespace Go.Proofs.YteonhdfjfjpbjaaGreatDoor.P
open Go.Proofs.YteonhdfjfjpbjaaGreatDoor.B
open Go.RowKit Go.Proofs.YteonhdfjfjpbjaaGreatDoorW.PrintWords Go.Proofs.YteonhdfjfjpbjaaGreatDoorW.PrintLast Go.Proofs.YteonhdfjfjpbjaaGreatDoorW.PrintMore
attribute [local go_sem] str_leq str_gtr str_geq max2_int min2_int max_two min_two max_three min_three max_four min_four
set_option linter.unusedVariables false
set_option linter.unusedSimpArgs false
def stringslite_HasPrefix.f (a0 : ByteArray) (a1 : ByteArray) : Option (Bool) := if (a0.size : Int) ≥ (a1.size : Int) then (if 0 ≤ (a1.size : Int) then (if (a1.size : Int) ≤ (a0.size : Int) then (some ((a0.extract 0 ((a1.size : Int) : Int).toNat).toList == a1.toList)) else (none)) else (none)) else (some false)
set_option maxHeartbeats 8000000 in
set_option maxRecDepth 100000 in
theorem stringslite_HasPrefix.calls (a0 : ByteArray) (a1 : ByteArray) (r : Bool) (w : World) (h : stringslite_HasPrefix.f a0 a1 = some r) :
  Calls Tryz.prog 128 #[.string a0, .string a1] w fun e w' => e = .returned (.bool r) ∧ Drawn0 w w' := by
 have H : (if (a0.size : Int) ≥ (a1.size : Int) then (if 0 ≤ (a1.size : Int) then (if (a1.size : Int) ≤ (a0.size : Int) then (some ((a0.extract 0 ((a1.size : Int) : Int).toNat).toList == a1.toList)) else (none)) else (none)) else (some false)) = some r := h
 clear h
 by_cases c3 : (a0.size : Int) ≥ (a1.size : Int)
 ·rw [if_pos c3] at H
  have c3b0 : decide ((a1.size : Int) ≤ (a0.size : Int)) = true := decide_eq_true c3
  have c3b1 : decide (a1.size ≤ a0.size) = true := decide_eq_true (Int.ofNat_le.mp c3)
  clear c3
  by_cases c4 : 0 ≤ (a1.size : Int)
  ·rw [if_pos c4] at H
   have c4b0 := eq_true c4
   have c4b1 : decide (0 ≤ (a1.size : Int)) = true := decide_eq_true c4
   clear c4
   by_cases c5 : (a1.size : Int) ≤ (a0.size : Int)
   ·rw [if_pos c5] at H
    have c5b0 := eq_true c5
    have c5b1 : decide ((a1.size : Int) ≤ (a0.size : Int)) = true := decide_eq_true c5
    clear c5
    obtain rfl := Option.some.inj H
    go_enter Tryz.func128, Tryz.ntmps128
    go_wp2
    go_ret
    exact ⟨by first | rfl | (simp; done) | (simp [*]; done), by repeat (first | exact Drawn0.refl _ | apply Drawn0.step)⟩
   ·rw [if_neg c5] at H
    exact absurd H zb25
  ·rw [if_neg c4] at H
   exact absurd H zb25
 ·rw [if_neg c3] at H
  have c3b0 : decide ((a1.size : Int) ≤ (a0.size : Int)) = false := decide_eq_false c3
  have c3b1 : decide (a1.size ≤ a0.size) = false := decide_eq_false (fun h => c3 (Int.ofNat_le.mpr h))
  clear c3
  obtain rfl := Option.some.inj H
  go_enter Tryz.func128, Tryz.ntmps128
  go_wp2
  go_ret
  exact ⟨by first | rfl | (simp; done) | (simp [*]; done), by repeat (first | exact Drawn0.refl _ | apply Drawn0.step)⟩
def stringslite_CutPrefix.f (a0 : ByteArray) (a1 : ByteArray) : Option (ByteArray × Bool) := (stringslite_HasPrefix.f a0 a1).bind fun t103 => (if t103 = true then (if 0 ≤ (a1.size : Int) then (if (a1.size : Int) ≤ (a0.size : Int) then (some (a0.extract ((a1.size : Int) : Int).toNat a0.size, true)) else (none)) else (none)) else (some (a0, false)))
set_option maxHeartbeats 8000000 in
set_option maxRecDepth 100000 in
theorem stringslite_CutPrefix.calls (a0 : ByteArray) (a1 : ByteArray) (r1 : ByteArray) (r2 : Bool) (w : World) (h : stringslite_CutPrefix.f a0 a1 = some (r1, r2)) :
  Calls Tryz.prog 96 #[.string a0, .string a1] w fun e w' => e = .returned (.tuple #[.string r1, .bool r2]) ∧ Drawn0 w w' := by
 have H : ((stringslite_HasPrefix.f a0 a1).bind fun t103 => (if t103 = true then (if 0 ≤ (a1.size : Int) then (if (a1.size : Int) ≤ (a0.size : Int) then (some (a0.extract ((a1.size : Int) : Int).toNat a0.size, true)) else (none)) else (none)) else (some (a0, false)))) = some (r1, r2) := h
 clear h
 replace H := Option.bind_eq_some_iff.mp H
 obtain ⟨t103, A30, H⟩ := H
 replace H : (if t103 = true then (if 0 ≤ (a1.size : Int) then (if (a1.size : Int) ≤ (a0.size : Int) then (some (a0.extract ((a1.size : Int) : Int).toNat a0.size, true)) else (none)) else (none)) else (some (a0, false))) = some (r1, r2) := H
 have A3 := Aside0.mk A30
 clear A30
 by_cases c4 : t103 = true
 ·subst c4
  replace H : (if 0 ≤ (a1.size : Int) then (if (a1.size : Int) ≤ (a0.size : Int) then (some (a0.extract ((a1.size : Int) : Int).toNat a0.size, true)) else (none)) else (none)) = some (r1, r2) := by rw [if_pos rfl] at H; exact H
  by_cases c5 : 0 ≤ (a1.size : Int)
  ·rw [if_pos c5] at H
   have c5b0 := eq_true c5
   have c5b1 : decide (0 ≤ (a1.size : Int)) = true := decide_eq_true c5
   clear c5
   by_cases c6 : (a1.size : Int) ≤ (a0.size : Int)
   ·rw [if_pos c6] at H
    have c6b0 := eq_true c6
    have c6b1 : decide ((a1.size : Int) ≤ (a0.size : Int)) = true := decide_eq_true c6
    clear c6
    simp only [Option.some.injEq, Prod.mk.injEq] at H
    obtain ⟨rfl, rfl⟩ := H
    go_enter Tryz.func96, Tryz.ntmps96
    go_wp2_with (first | ((with_reducible refine gate_callee (f := 128) rfl ?_); refine goesL_ (some 8) rfl rfl Tryz.func128 zb15 rfl #[.string a0, .string a1] rfl zb1 ?_; (with_reducible refine (stringslite_HasPrefix.calls a0 a1 true _ A3.out).mono ?_); rintro e w' ⟨rfl, ⟨nd, rfl⟩⟩; refine ⟨_, rfl, ?_⟩))
    go_ret2
    exact ⟨by first | rfl | (simp; done) | (simp [*]; done), by repeat (first | exact Drawn0.refl _ | apply Drawn0.step)⟩
   ·rw [if_neg c6] at H
    exact absurd H zb25
  ·rw [if_neg c5] at H
   exact absurd H zb25
 ·replace c4 := Bool.eq_false_iff.mpr c4
  subst c4
  replace H : (some (a0, false)) = some (r1, r2) := by rw [if_neg (show ¬ (false = true) by decide)] at H; exact H
  simp only [Option.some.injEq, Prod.mk.injEq] at H
  obtain ⟨rfl, rfl⟩ := H
  go_enter Tryz.func96, Tryz.ntmps96
  go_wp2_with (first | ((with_reducible refine gate_callee (f := 128) rfl ?_); refine goesL_ (some 8) rfl rfl Tryz.func128 zb15 rfl #[.string a0, .string a1] rfl zb1 ?_; (with_reducible refine (stringslite_HasPrefix.calls a0 a1 false _ A3.out).mono ?_); rintro e w' ⟨rfl, ⟨nd, rfl⟩⟩; refine ⟨_, rfl, ?_⟩))
  go_ret2
  exact ⟨by first | rfl | (simp; done) | (simp [*]; done), by repeat (first | exact Drawn0.refl _ | apply Drawn0.step)⟩
def strings_CutPrefix.f (a0 : ByteArray) (a1 : ByteArray) : Option (ByteArray × Bool) := (stringslite_CutPrefix.f a0 a1).bind fun bt104 => (some (bt104.1, bt104.2))
set_option maxHeartbeats 8000000 in
set_option maxRecDepth 100000 in
theorem strings_CutPrefix.calls (a0 : ByteArray) (a1 : ByteArray) (r1 : ByteArray) (r2 : Bool) (w : World) (h : strings_CutPrefix.f a0 a1 = some (r1, r2)) :
  Calls Tryz.prog 60 #[.string a0, .string a1] w fun e w' => e = .returned (.tuple #[.string r1, .bool r2]) ∧ Drawn0 w w' := by
 have H : ((stringslite_CutPrefix.f a0 a1).bind fun bt104 => (some (bt104.1, bt104.2))) = some (r1, r2) := h
 clear h
 replace H := Option.bind_eq_some_iff.mp H
 obtain ⟨⟨t104, t105⟩, A30, H⟩ := H
 replace H : (some (t104, t105)) = some (r1, r2) := H
 have A3 := Aside0.mk A30
 clear A30
 simp only [Option.some.injEq, Prod.mk.injEq] at H
 obtain ⟨rfl, rfl⟩ := H
 go_enter Tryz.func60, Tryz.ntmps60
 go_wp2_with (first | ((with_reducible refine gate_callee (f := 96) rfl ?_); refine goesL_ (some 8) rfl rfl Tryz.func96 zb15 rfl #[.string a0, .string a1] rfl zb1 ?_; (with_reducible refine (stringslite_CutPrefix.calls a0 a1 t104 t105 _ A3.out).mono ?_); rintro e w' ⟨rfl, ⟨nd, rfl⟩⟩; refine ⟨_, rfl, ?_⟩))
 go_ret2
 exact ⟨by first | rfl | (simp; done) | (simp [*]; done), by repeat (first | exact Drawn0.refl _ | apply Drawn0.step)⟩
def media_Text_Take.f (s0_0 : ByteArray) (a1 : ByteArray) : Option (Bool × ByteArray) := (strings_CutPrefix.f s0_0 a1).bind fun bt106 => (some (bt106.2, bt106.1))
set_option maxHeartbeats 8000000 in
set_option maxRecDepth 100000 in
theorem media_Text_Take.calls (g : Nat) (s0_0 : ByteArray) (a1 : ByteArray) (r1 : Bool) (r2 : ByteArray) (w0 w : World) (hI : IsS90 w0 w g s0_0) (hB : Below w0.heap.size w0 w) (h : media_Text_Take.f s0_0 a1 = some (r1, r2)) :
  Calls Tryz.prog 94 #[.pointer (some ⟨g, 0, none⟩), .string a1] w fun e w' => e = .returned (.bool r1) ∧ IsS90 w0 w' g r2 ∧ Below w0.heap.size w0 w' ∧ KeepBut w w' g none := by
 have HI0 := Aside0.mk hI
 have HK := Aside0.mk (KeepBut.refl w g none)
 have HL := Aside0.mk hB.size
 clear hI
 have HW0 := Aside0.mk hB.size
 have HB := Aside0.mk hB
 clear hB
 have H : ((strings_CutPrefix.f s0_0 a1).bind fun bt106 => (some (bt106.2, bt106.1))) = some (r1, r2) := h
 clear h
 replace H := Option.bind_eq_some_iff.mp H
 obtain ⟨⟨t106, t107⟩, A30, H⟩ := H
 replace H : (some (t107, t106)) = some (r1, r2) := H
 have A3 := Aside0.mk A30
 clear A30
 simp only [Option.some.injEq, Prod.mk.injEq] at H
 obtain ⟨rfl, rfl⟩ := H
 obtain ⟨HGz4, hgz4⟩ := HI0.out
 have hcz4_0 := cellS90_0 HGz4
 have hfz4_0 := blk_frozen HGz4 0
 clear HGz4 hgz4
 go_enter Tryz.func94, Tryz.ntmps94
 go_wp2_with (first | ((with_reducible refine gate_callee (f := 60) rfl ?_); refine goesL_ (some 12) rfl rfl Tryz.func60 zb15 rfl #[.string s0_0, .string a1] rfl zb1 ?_; (with_reducible refine (strings_CutPrefix.calls s0_0 a1 t106 t107 _ A3.out).mono ?_); rintro e w' ⟨rfl, ⟨nd, rfl⟩⟩; refine ⟨_, rfl, ?_⟩))
 go_ret
 exact ⟨zb4, by repeat (first | (with_reducible first | exact HI0.out | apply IsS90.alloc | apply IsS90.drewN | apply IsS90.drew | apply IsS90.set_0) | exact HI0.out), by repeat (first | (with_reducible first | exact HB.out | apply below_alloc | apply pw_below_drewN | apply below_drew1 | refine below_set ?_ (IsS90.ge HI0.out)) | exact HB.out), by repeat (first | (with_reducible first | exact HK.out | apply KeepBut.set_ | apply keep_drewN | apply keep_drew | apply keep_alloc) | exact HK.out)⟩
end Go.Proofs.YteonhdfjfjpbjaaGreatDoor.P
/- Omed -/
namespace Go.Proofs.YteonhdfjfjpbjaaGreatDoor.O
open Go.RowKit Go.Proofs.YteonhdfjfjpbjaaGreatDoorW.PrintWords Go.Proofs.YteonhdfjfjpbjaaGreatDoorW.PrintLast Go.Proofs.YteonhdfjfjpbjaaGreatDoorW.PrintMore
set_option linter.unusedVariables false
set_option linter.unusedSimpArgs false
def lowI (c : Int) : Int := if 65 ≤ c ∧ c ≤ 90 then c + 32 else c
theorem low_or (c : Int) (h : 65 ≤ c ∧ c ≤ 90) : Go.bits .or .u8 c 32 = c + 32 := by
  obtain ⟨a, rfl⟩ := Int.eq_ofNat_of_zero_le (show 0 ≤ c by omega)
  have key : ∀ a : Fin 26, Go.bits .or .u8 (((a.val + 65 : Nat)) : Int) 32 = ((a.val + 65 : Nat) : Int) + 32 := by decide +kernel
  have := key ⟨a - 65, by omega⟩
  rwa [show a - 65 + 65 = a by omega] at this
def smallAt (s : ByteArray) (k : Nat) : List Int := (List.range s.size).map fun (j : Nat) => if j < k then lowI (bt s j) else bt s j
theorem smallAt_len (s : ByteArray) (k : Nat) : (smallAt s k).length = s.size := by simp [smallAt]
theorem smallAt_get (s : ByteArray) (k j : Nat) (h : j < s.size) : (smallAt s k).getD j 0 = if j < k then lowI (bt s j) else bt s j := by
  simp [smallAt, List.getD_eq_getElem?_getD, h]
def media_Small.f (a0 : ByteArray) : Option ByteArray := if a0.size ≤ 9223372036854775807 then some (strOfNums (smallAt a0 a0.size)) else none
set_option maxHeartbeats 1000000 in
theorem media_Small.calls (a0 : ByteArray) (r : ByteArray) (w : World) (h : media_Small.f a0 = some r) :
    Calls Tryz.prog 50 #[.string a0] w fun e w' => e = .returned (.string r) ∧ Below w.heap.size w w' := by
  unfold media_Small.f at h
  split at h
  case isFalse => exact absurd h zb25
  rename_i hsz
  obtain rfl := Option.some.inj h
  clear h
  have hconv := Lib.run_convert_string_bytes (P := Tryz.prog) w 9 23 5 a0 Tryz.underlying9 Tryz.underlying23 Tryz.underlying5
  have hb := Lib.hid (below_bytes w 5 a0)
  have hcell := Lib.hid (fun j hj => Lib.bytesWorld_cell w 5 a0 j hj)
  have hfz : Hid (∀ j : Nat, j < a0.size → (Lib.bytesWorld w 5 a0).frozen? ⟨w.heap.size, j, none⟩ = false) := Lib.hid (fun j hj => by
    have hs : a0.size ≤ (Lib.bytesCells w 5 a0).size := by
      unfold Lib.bytesCells
      rw [Array.size_append, Array.size_map]
      exact Nat.le_add_right _ _
    unfold World.frozen?
    rw [Lib.bytesWorld_at_new]
    simp
    omega)
  have hlt0 : Hid (w.heap.size < (Lib.bytesWorld w 5 a0).heap.size) := Lib.hid (by rw [Lib.bytesWorld_size]; omega)
  generalize Lib.bytesWorld w 5 a0 = w1 at *
  generalize grownCap w a0.size 0 5 = cap at *
  go_enter Tryz.func50, Tryz.ntmps50
  go_wp2
  go_loopw [10] (fun i wr => ∃ k : Nat, k ≤ a0.size ∧ i = .int .i64 k ∧ Hid (∀ j : Nat, j < a0.size → wr.cell? ⟨w.heap.size, j, none⟩ = some (.int .u8 ((smallAt a0 k).getD j 0)) ∧ wr.frozen? ⟨w.heap.size, j, none⟩ = false) ∧ Hid (Below w.heap.size w wr)) (fun i _ => a0.size - (intOf i).toNat)
  case atStart =>
    refine ⟨0, Nat.zero_le _, rfl, Lib.hid (fun j hj => ⟨?_, hfz.out j hj⟩), hb⟩
    rw [hcell.out j hj, bt_getD a0 j hj, smallAt_get a0 0 j hj, if_neg zb17]
  case round =>
    obtain ⟨k, hk, rfl, hc, hB⟩ := hrel
    by_cases hlt : k < a0.size
    · have hck : wr.cell? ⟨w.heap.size, k, none⟩ = some (.int .u8 (bt a0 k)) := by rw [(hc.out k hlt).1, smallAt_get a0 k k hlt, if_neg zb17]
      have hfk := (hc.out k hlt).2
      obtain ⟨q1, q2⟩ := bt_range a0 k
      have hrest : Hid (∀ j : Nat, j < a0.size → j ≠ k → (smallAt a0 (k + 1)).getD j 0 = (smallAt a0 k).getD j 0) := Lib.hid (fun j hj hne => by
        rw [smallAt_get _ _ _ hj, smallAt_get _ _ _ hj]
        by_cases hjk : j < k
        · rw [if_pos hjk, if_pos zb17]
        · rw [if_neg hjk, if_neg zb17])
      have hself : Hid ((smallAt a0 (k + 1)).getD k 0 = lowI (bt a0 k)) := Lib.hid (by rw [smallAt_get _ _ _ hlt, if_pos zb17])
      generalize bt a0 k = c at *
      by_cases hup : 65 ≤ c ∧ c ≤ 90
      · have ho := low_or c hup
        have hl : Hid (lowI c = c + 32) := Lib.hid (by unfold lowI; rw [if_pos hup])
        obtain ⟨u1, u2⟩ := hup
        go_wp2
        go_roundw
        case rel =>
          refine ⟨k + 1, by omega, by go_num, Lib.hid (fun j hj => ?_), Lib.hid (hB.out.setCell (Nat.le_refl _) _)⟩
          by_cases hjk : j = k
          · subst hjk
            rw [hself.out, hl.out]
            exact ⟨World.cell?_setCell_same _ _ _ hck, by rw [World.frozen?_setCell]; exact hfk⟩
          · refine ⟨?_, by rw [World.frozen?_setCell]; exact (hc.out j hj).2⟩
            have hne : (⟨w.heap.size, (k : Nat), none⟩ : Addr) ≠ ⟨w.heap.size, j, none⟩ := fun e => hjk (congrArg Addr.off e).symm
            exact ((World.cell?_setCell_other _ _ _ _ hne).trans (hc.out j hj).1).trans (by rw [hrest.out j hj hjk])
        case measure => simp [intOf]; omega
      · have hl : Hid (lowI c = c) := Lib.hid (by unfold lowI; rw [if_neg hup])
        have hd : Hid (∀ j : Nat, j < a0.size → wr.cell? ⟨w.heap.size, j, none⟩ = some (.int .u8 ((smallAt a0 (k + 1)).getD j 0)) ∧ wr.frozen? ⟨w.heap.size, j, none⟩ = false) := Lib.hid (fun j hj => by
          by_cases hjk : j = k
          · subst hjk
            rw [hself.out, hl.out]
            exact ⟨hck, hfk⟩
          · rw [hrest.out j hj hjk]
            exact hc.out j hj)
        by_cases u1 : 65 ≤ c
        · have u2 : ¬ c ≤ 90 := fun h => hup ⟨u1, h⟩
          clear hup
          go_wp2
          go_roundw
          case rel => exact ⟨k + 1, by omega, by go_num, hd, hB⟩
          case measure => simp [intOf]; omega
        · clear hup
          go_wp2
          go_roundw
          case rel => exact ⟨k + 1, by omega, by go_num, hd, hB⟩
          case measure => simp [intOf]; omega
    · obtain rfl : k = a0.size := by omega
      have hconv2 : (convert 23 9 (.slice (some ⟨w.heap.size, 0, none⟩) a0.size cap)).run Tryz.prog wr = .ok (.string (strOfNums (smallAt a0 a0.size))) wr := string_of_reads Tryz.underlying23 Tryz.underlying5 Tryz.underlying9 ⟨smallAt_len _ _, hsz, fun _ => ⟨_, rfl, fun j hj => by
        have := (hc.out j hj).1
        by_cases h0 : j = 0
        · subst h0
          exact this
        · simp only [Addr.add, h0, if_false, Nat.zero_add]
          exact this⟩⟩
      obtain ⟨out, hout⟩ : ∃ x, x = strOfNums (smallAt a0 a0.size) := ⟨_, rfl⟩
      rw [← hout] at hconv2
      have hout' := Lib.hid hout
      clear hout
      go_wp2
      go_ret
      exact ⟨ret_str hout'.out, hB.out⟩
def badI (c : Int) : Bool := decide (c < 32) && !(c == 9) || c == 127
def trimB (s : ByteArray) : ByteArray := ⟨(Lib.trimS s.data.toList [32, 9]).toArray⟩
def field_value.f (a0 : ByteArray) : Option Bool := if a0.size ≤ 9223372036854775807 then some (if (List.range a0.size).any (fun j => badI (bt a0 j)) = true then false else (trimB a0).toList == a0.toList) else none
theorem any_false (a0 : ByteArray) (h : ∀ j, j < a0.size → badI (bt a0 j) = false) : (List.range a0.size).any (fun j => badI (bt a0 j)) = false := by
  rw [List.any_eq_false]
  intro j hj
  rw [h j (List.mem_range.1 hj)]
  decide
theorem any_true (a0 : ByteArray) (k : Nat) (hk : k < a0.size) (h : badI (bt a0 k) = true) : (List.range a0.size).any (fun j => badI (bt a0 j)) = true := by
  rw [List.any_eq_true]
  exact ⟨k, List.mem_range.2 hk, h⟩
set_option maxHeartbeats 1000000 in
theorem field_value.calls (a0 : ByteArray) (r : Bool) (w : World) (h : field_value.f a0 = some r) :
    Calls Tryz.prog 99 #[.string a0] w fun e w' => e = .returned (.bool r) ∧ Below w.heap.size w w' := by
  unfold field_value.f at h
  split at h
  case isFalse => exact absurd h zb25
  rename_i hsz
  have hr := Lib.hid (Option.some.inj h)
  clear h
  have hconv := Lib.run_convert_string_bytes (P := Tryz.prog) w 9 23 5 a0 Tryz.underlying9 Tryz.underlying23 Tryz.underlying5
  have hb := Lib.hid (below_bytes w 5 a0)
  have hcell := Lib.hid (fun j hj => Lib.bytesWorld_cell w 5 a0 j hj)
  generalize Lib.bytesWorld w 5 a0 = w1 at *
  generalize grownCap w a0.size 0 5 = cap at *
  go_enter Tryz.func99, Tryz.ntmps99
  go_wp2
  go_loop [8] (fun i => ∃ k : Nat, k ≤ a0.size ∧ i = .int .i64 k ∧ Hid (∀ j : Nat, j < k → badI (bt a0 j) = false)) (fun i => a0.size - (intOf i).toNat)
  case atStart => exact ⟨0, Nat.zero_le _, rfl, Lib.hid (fun j hj => absurd hj zb17)⟩
  case round =>
    obtain ⟨k, hk, rfl, hgood⟩ := hrel
    by_cases hlt : k < a0.size
    · have hc : w1.cell? ⟨w.heap.size, k, none⟩ = some (.int .u8 (bt a0 k)) := by rw [hcell.out k hlt, bt_getD a0 k hlt]
      obtain ⟨q1, q2⟩ := bt_range a0 k
      have hbad : Hid (badI (bt a0 k) = true → r = false) := Lib.hid (fun hx => by
        have := hr.out
        rw [if_pos (any_true a0 k hlt hx)] at this
        exact this.symm)
      have hok : Hid (badI (bt a0 k) = false → ∀ j : Nat, j < k + 1 → badI (bt a0 j) = false) := Lib.hid (fun hx j hj => by
        by_cases hjk : j = k
        · subst hjk; exact hx
        · exact hgood.out j zb17)
      generalize bt a0 k = c at *
      by_cases h1 : c < 32
      · by_cases h2 : c = 9
        · subst h2
          have hk1 := Lib.hid (hok.out zb20)
          clear hok hbad
          go_wp2
          go_round
          case rel => exact ⟨k + 1, by omega, by go_num, hk1⟩
          case measure => simp [intOf]; omega
        · obtain rfl := hbad.out (by unfold badI; simp [h1, h2])
          go_wp2
          go_ret
          exact ⟨rfl, hb.out⟩
      · by_cases h3 : c = 127
        · subst h3
          obtain rfl := hbad.out zb20
          go_wp2
          go_ret
          exact ⟨rfl, hb.out⟩
        · have hx : badI c = false := by unfold badI; simp [h1, h3]
          have hk1 := Lib.hid (hok.out hx)
          have h1b : decide (c < 32) = false := decide_eq_false h1
          have h3b : decide (c = 127) = false := decide_eq_false h3
          have h3c : (c == 127) = false := by simpa using h3
          clear hx hok hbad
          go_wp2
          go_round
          case rel => exact ⟨k + 1, by omega, by go_num, hk1⟩
          case measure => simp [intOf]; omega
    · obtain rfl : k = a0.size := by omega
      have hT : strings_Trim.f a0 (⟨#[32, 9]⟩ : ByteArray) = some (trimB a0) := by
        unfold strings_Trim.f
        rw [if_pos ⟨hsz, by decide, by decide⟩]
        rfl
      have HT := Lib.hid (strings_Trim.calls a0 _ _ w1 hT)
      have hr2 : Hid (((trimB a0).toList == a0.toList) = r) := Lib.hid (by
        have := hr.out
        rw [if_neg (by rw [any_false a0 hgood.out]; decide)] at this
        exact this)
      generalize trimB a0 = t at *
      clear hT
      go_wp2_with (go_at_call 46; refine HT.out.mono ?_; rintro e w' ⟨rfl, hb2⟩)
      go_ret
      exact ⟨ret_bool hr2.out, below_step hb.out hb2⟩
end Go.Proofs.YteonhdfjfjpbjaaGreatDoor.O
/- Obld -/
namespace Go.Proofs.YteonhdfjfjpbjaaGreatDoor.O
open Go.RowKit Go.Proofs.YteonhdfjfjpbjaaGreatDoorW.PrintWords Go.Proofs.YteonhdfjfjpbjaaGreatDoorW.PrintLast Go.Proofs.YteonhdfjfjpbjaaGreatDoorW.PrintMore Go.Proofs.YteonhdfjfjpbjaaGreatDoor.P Go.Proofs.YteonhdfjfjpbjaaGreatDoor.B
set_option linter.unusedVariables false
set_option linter.unusedSimpArgs false
theorem cells_len (s : ByteArray) : (Lib.byteCells s.data.toList).length = s.size := by rw [Lib.byteCells_length, data_length]
theorem cells_append (s t : ByteArray) : Lib.byteCells s.data.toList ++ Lib.strCells t = Lib.byteCells (s ++ t).data.toList := by
  simp [Lib.byteCells, Lib.strCells, ByteArray.data_append]
def Builder_WriteString.f (s0 a1 : ByteArray) : Option (Int × Option Int × ByteArray) := if s0.size + a1.size ≤ 140737488355328 then some ((a1.size : Int), none, s0 ++ a1) else none
theorem Builder_WriteString.calls (g : Nat) (s0_0 : ByteArray) (a1 : ByteArray) (r1 : Int) (r2 : Option Int) (r3 : ByteArray) (w0 w : World) (hI : IsS54 w0 w g s0_0) (hB : Below w0.heap.size w0 w) (h : Builder_WriteString.f s0_0 a1 = some (r1, r2, r3)) :
    Calls Tryz.prog 27 #[.pointer (some ⟨g, 0, none⟩), .string a1] w fun e w' => e = .returned (.tuple #[.int .i64 r1, errW r2]) ∧ IsS54 w0 w' g r3 ∧ Below w0.heap.size w0 w' ∧ KeepB 5 w w' g := by
  unfold Builder_WriteString.f at h
  split at h
  case isFalse => exact absurd h zb25
  rename_i hb
  obtain ⟨rfl, rfl, rfl⟩ : (a1.size : Int) = r1 ∧ none = r2 ∧ s0_0 ++ a1 = r3 := by simpa using h
  refine (Tryz.Builder_WriteString_k w0.heap.size g _ a1 w hI (by rw [cells_len]; exact hb) hB.size).mono ?_
  rintro e w' ⟨rfl, h1, h2, h3⟩
  rw [cells_append] at h1
  exact ⟨rfl, .inr h1, hB.trans h2, ⟨h3⟩⟩
def Builder_String.f (s0 : ByteArray) : Option (ByteArray × ByteArray) := some (s0, s0)
theorem Builder_String.calls (g : Nat) (s0_0 : ByteArray) (r1 : ByteArray) (r2 : ByteArray) (w0 w : World) (hI : IsS54 w0 w g s0_0) (hB : Below w0.heap.size w0 w) (h : Builder_String.f s0_0 = some (r1, r2)) :
    Calls Tryz.prog 29 #[.pointer (some ⟨g, 0, none⟩)] w fun e w' => e = .returned (.string r1) ∧ IsS54 w0 w' g r2 ∧ Below w0.heap.size w0 w' ∧ KeepB 5 w w' g := by
  obtain ⟨rfl, rfl⟩ : s0_0 = r1 ∧ s0_0 = r2 := by simpa [Builder_String.f] using h
  refine (Tryz.Builder_String_any_k w0.heap.size g s0_0.data.toList w hI hB.size).mono ?_
  rintro e w' ⟨rfl, h1, h2, h3⟩
  exact ⟨rfl, h1, hB.trans h2, ⟨h3⟩⟩
def oneB (c : Int) : ByteArray := ⟨#[UInt8.ofNat c.toNat]⟩
theorem byte_cell (s : ByteArray) (c : Int) (h0 : 0 ≤ c) (h1 : c ≤ 255) : Lib.byteCells s.data.toList ++ [.int .u8 c] = Lib.byteCells (s ++ oneB c).data.toList := by
  have e : ((UInt8.ofNat c.toNat).toNat : Int) = c := by rw [UInt8.toNat_ofNat']; omega
  have e2 : (oneB c).data.toList = [UInt8.ofNat c.toNat] := rfl
  rw [show (s ++ oneB c).data.toList = s.data.toList ++ (oneB c).data.toList from by simp, e2]
  unfold Lib.byteCells
  rw [List.map_append, List.map_cons, List.map_nil, e]
theorem badI_low {c : Int} (h1 : c < 32) (h2 : ¬ c = 9) : badI c = true := by unfold badI; simp [h1, h2]
theorem badI_no {c : Int} (h1 : ¬ c < 32) (h3 : ¬ c = 127) : badI c = false := by unfold badI; simp [h1, h3]
theorem oneB_size (s : ByteArray) (c : Int) : (s ++ oneB c).size = s.size + 1 := by rw [ByteArray.size_append]; rfl
theorem Builder_WriteByte.calls (g : Nat) (s : ByteArray) (c : Int) (w0 w : World) (h0 : 0 ≤ c) (h1 : c ≤ 255) (hI : IsS54 w0 w g s) (hB : Below w0.heap.size w0 w) (hs : s.size + 1 ≤ 140737488355328) :
    Calls Tryz.prog 48 #[.pointer (some ⟨g, 0, none⟩), .int .u8 c] w fun e w' => e = .returned .nilIface ∧ IsS54 w0 w' g (s ++ oneB c) ∧ Below w0.heap.size w0 w' := by
  refine (Tryz.Builder_WriteByte_k w0.heap.size g _ c w hI (by rw [cells_len]; exact hs) hB.size).mono ?_
  rintro e w' ⟨rfl, h2, h3, h4⟩
  rw [byte_cell s c h0 h1] at h2
  exact ⟨rfl, .inr h2, hB.trans h3⟩
def qtF (s : ByteArray) : Nat → Nat → ByteArray → Option (ByteArray × Nat)
  | 0, _, _ => none
  | f + 1, k, acc => if k < s.size then (if bt s k = 34 then some (acc, k + 1) else if bt s k = 92 then (if k + 1 < s.size then (if badI (bt s ((k + 1 : Nat) : Int)) = true then none else qtF s f (k + 2) (acc ++ oneB (bt s ((k + 1 : Nat) : Int)))) else none) else if badI (bt s k) = true then none else qtF s f (k + 1) (acc ++ oneB (bt s k))) else none
def qtR (s : ByteArray) : Option (ByteArray × Nat) → ByteArray × Bool × ByteArray
  | some (t, k) => (t, true, s.extract k s.size)
  | none => (⟨#[]⟩, false, s)
def Text_Quoted.f (s0 : ByteArray) : Option (ByteArray × Bool × ByteArray) := if s0.size ≤ 140737488355327 then some (qtR s0 (qtF s0 (s0.size + 1) 0 ⟨#[]⟩)) else none
/-- What the callee leaves of the caller's memory. -/
theorem quo_end {w0 w W : World} {g : Nat} {s0 : ByteArray} (hI : IsS90 w0 w g s0) (hB : Below w0.heap.size w0 w) (hb : Below w.heap.size w W) : IsS90 w0 W g s0 ∧ Below w0.heap.size w0 W ∧ KeepBut w W g none :=
  ⟨hI.below hb, below_step hB hb, KeepBut.of_below hb g none⟩
set_option maxHeartbeats 2000000 in
theorem Text_Quoted.calls (g : Nat) (s0_0 : ByteArray) (r1 : ByteArray) (r2 : Bool) (r3 : ByteArray) (w0 w : World) (hI : IsS90 w0 w g s0_0) (hB : Below w0.heap.size w0 w) (h : Text_Quoted.f s0_0 = some (r1, r2, r3)) :
    Calls Tryz.prog 127 #[.pointer (some ⟨g, 0, none⟩)] w fun e w' => e = .returned (.tuple #[.string r1, .bool r2]) ∧ IsS90 w0 w' g r3 ∧ Below w0.heap.size w0 w' ∧ KeepBut w w' g none := by
  unfold Text_Quoted.f at h
  split at h
  case isFalse => exact absurd h zb25
  rename_i hsz
  have hres := Lib.hid (Option.some.inj h)
  clear h
  have hglt := hI.lt
  have hHI := Lib.hid hI
  have hHB := Lib.hid hB
  have hcell0 : Hid (w.cell? ⟨g, 0, none⟩ = some (.string s0_0) ∧ w.frozen? ⟨g, 0, none⟩ = false) := Lib.hid ⟨(blk_cell hI.1 0).trans rfl, blk_frozen hI.1 0⟩
  have hnew : Hid (IsS54 w (w.alloc (.cells #[.pointer none, .slice none 0 0] 54)) w.heap.size ⟨#[]⟩) := Lib.hid (IsS54.new (by simpa using heap_alloc_new w _) (Nat.le_refl _))
  have hnewB : Hid (Below w.heap.size w (w.alloc (.cells #[.pointer none, .slice none 0 0] 54))) := Lib.hid (below_alloc (Below.refl _ _) _)
  clear hI hB
  go_enter Tryz.func127, Tryz.ntmps127
  go_wp2
  go_loopw [5] (fun i wr => ∃ (k f : Nat) (acc : ByteArray), k ≤ s0_0.size ∧ i = .int .i64 k ∧ Hid (s0_0.size + 1 ≤ f + k ∧ acc.size ≤ k ∧ qtR s0_0 (qtF s0_0 f k acc) = (r1, r2, r3)) ∧ Hid (IsS54 w wr w.heap.size acc) ∧ Hid (Below w.heap.size w wr)) (fun i _ => s0_0.size - (intOf i).toNat)
  case atStart => exact ⟨0, s0_0.size + 1, ⟨#[]⟩, Nat.zero_le _, rfl, Lib.hid ⟨by omega, Nat.le_refl _, hres.out⟩, hnew, hnewB⟩
  case round =>
    obtain ⟨k, f, acc, hk, rfl, hq, hS, hW⟩ := hrel
    have hc0 : wr.cell? ⟨g, 0, none⟩ = some (.string s0_0) := (hW.out.cell hglt).trans hcell0.out.1
    have hf0 : wr.frozen? ⟨g, 0, none⟩ = false := (hW.out.frozen hglt).trans hcell0.out.2
    obtain ⟨f, rfl⟩ : ∃ f', f = f' + 1 := ⟨f - 1, by have := hq.out.1; omega⟩
    by_cases hlt : k < s0_0.size
    · have hq2 : Hid ((s0_0.size + 1 ≤ f + 1 + k ∧ acc.size ≤ k) ∧ qtR s0_0 (if bt s0_0 k = 34 then some (acc, k + 1) else if bt s0_0 k = 92 then (if k + 1 < s0_0.size then (if badI (bt s0_0 ((k + 1 : Nat) : Int)) = true then none else qtF s0_0 f (k + 2) (acc ++ oneB (bt s0_0 ((k + 1 : Nat) : Int)))) else none) else if badI (bt s0_0 k) = true then none else qtF s0_0 f (k + 1) (acc ++ oneB (bt s0_0 k))) = (r1, r2, r3)) := Lib.hid ⟨⟨hq.out.1, hq.out.2.1⟩, by
        have := hq.out.2.2
        rw [qtF, if_pos hlt] at this
        exact this⟩
      clear hq
      obtain ⟨q1, q2⟩ := bt_range s0_0 k
      have hidx : ∀ h : k < s0_0.size, ((s0_0[k]'h).toNat : Int) = bt s0_0 k := fun h => by simp [bt, h]
      obtain ⟨⟨hfk, hacc⟩, hr⟩ := hq2.out
      clear hq2
      by_cases c34 : bt s0_0 k = 34
      · rw [if_pos c34] at hr
        obtain ⟨e1, e2, e3⟩ : acc = r1 ∧ true = r2 ∧ s0_0.extract (k + 1) s0_0.size = r3 := by simpa [qtR] using hr
        clear hr
        have hS2 : Hid (IsS54 w (wr.setCell ⟨g, 0, none⟩ (.string (s0_0.extract (k + 1) s0_0.size))) w.heap.size acc) := Lib.hid (hS.out.farB (by show w.heap.size ≠ g; omega) ⟨_, _, (hHI.out.below hW.out).1⟩ zb20 _)
        have HC0 := Tryz.Builder_String_any_k w.heap.size w.heap.size acc.data.toList _ hS2.out (by simpa [World.setCell] using hW.out.size)
        rw [show (⟨acc.data.toList.toArray⟩ : ByteArray) = acc from by cases acc; simp] at HC0
        have HC := Lib.hid HC0
        clear HC0
        have hk1 : (k : Int) + 1 ≤ (s0_0.size : Int) := by omega
        have hw1 : wrap64 ((k : Int) + 1) = ((k + 1 : Nat) : Int) := by unfold wrap64; omega
        clear hS2
        have he1 := Lib.hid e1; have he2 := Lib.hid e2; have he3 := Lib.hid e3
        clear e1 e2 e3
        rw [c34] at hidx
        go_wp2_with (go_at_call 29; refine HC.out.mono ?_; rintro e w2 ⟨rfl, _, hb2, _⟩; have hb2 := Lib.hid hb2)
        go_ret2
        have hs1 : IsS90 w0 (wr.setCell ⟨g, 0, none⟩ (.string (s0_0.extract (k + 1) s0_0.size))) g (s0_0.extract (k + 1) s0_0.size) := (hHI.out.below hW.out).set_0 _
        refine ⟨?_, ?_, ?_, ?_⟩
        · show Ending.returned (.tuple #[.string acc, .bool true]) = _
          rw [← he1.out, ← he2.out]
        · rw [← he3.out]
          exact ⟨(hb2.out.block g hglt).trans hs1.1, hs1.2⟩
        · exact (below_set (below_step hHB.out hW.out) hHI.out.ge).trans (hb2.out.mono hHB.out.size)
        · exact ⟨Nat.le_trans (by simpa [World.setCell] using hW.out.size) hb2.out.size, fun i hi hg _ => (hb2.out.block i hi).trans ((Below.heap_setCell _ _ _ _ hg).trans (hW.out.block i hi))⟩
      · rw [if_neg c34] at hr
        by_cases c92 : bt s0_0 k = 92
        · rw [if_pos c92] at hr
          have hw1 : wrap64 ((k : Int) + 1) = ((k + 1 : Nat) : Int) := by unfold wrap64; omega
          rw [c92] at hidx
          by_cases hk1 : k + 1 < s0_0.size
          · rw [if_pos hk1] at hr
            have hidx2 : ∀ h : k + 1 < s0_0.size, ((s0_0[k + 1]'h).toNat : Int) = bt s0_0 ((k + 1 : Nat) : Int) := fun h => by unfold bt; rw [dif_pos zb17]; rfl
            obtain ⟨p1, p2⟩ := bt_range s0_0 ((k + 1 : Nat) : Int)
            generalize hd : bt s0_0 ((k + 1 : Nat) : Int) = d at *
            clear hd
            have hne : ¬ ((k + 1 : Nat) : Int) = (s0_0.size : Int) := by omega
            by_cases h1 : d < 32
            · by_cases h2 : d = 9
              · have hb0 : badI d = false := by rw [h2]; decide
                subst h2
                rw [if_neg (by rw [hb0]; decide)] at hr
                have hr2 := Lib.hid hr
                have HC := Lib.hid (Builder_WriteByte.calls w.heap.size acc 9 w wr zb17 zb17 hS.out hW.out zb17)
                clear hr hb0
                go_wp2_with (go_at_call 48; refine HC.out.mono ?_; rintro e w2 ⟨rfl, hi, hb⟩; have hi := Lib.hid hi; have hb := Lib.hid hb)
                go_roundw
                case rel => exact ⟨k + 2, f, acc ++ oneB 9, by omega, by go_num, Lib.hid ⟨by omega, by rw [oneB_size]; omega, hr2.out⟩, hi, hb⟩
                case measure => simp [intOf]; omega
              · have hb1 : badI d = true := badI_low h1 h2
                rw [if_pos hb1] at hr
                obtain ⟨e1, e2, e3⟩ : (⟨#[]⟩ : ByteArray) = r1 ∧ false = r2 ∧ s0_0 = r3 := by simpa [qtR] using hr
                subst e1; subst e2; subst e3
                clear hr hb1
                go_wp2
                go_ret2
                exact ⟨rfl, quo_end hHI.out hHB.out hW.out⟩
            · by_cases h3 : d = 127
              · have hb1 : badI d = true := by rw [h3]; decide
                subst h3
                rw [if_pos hb1] at hr
                obtain ⟨e1, e2, e3⟩ : (⟨#[]⟩ : ByteArray) = r1 ∧ false = r2 ∧ s0_0 = r3 := by simpa [qtR] using hr
                subst e1; subst e2; subst e3
                clear hr hb1
                go_wp2
                go_ret2
                exact ⟨rfl, quo_end hHI.out hHB.out hW.out⟩
              · have hb0 : badI d = false := badI_no h1 h3
                rw [if_neg (by rw [hb0]; decide)] at hr
                have hr2 := Lib.hid hr
                have HC := Lib.hid (Builder_WriteByte.calls w.heap.size acc d w wr zb17 zb17 hS.out hW.out zb17)
                clear hr hb0
                go_wp2_with (go_at_call 48; refine HC.out.mono ?_; rintro e w2 ⟨rfl, hi, hb⟩; have hi := Lib.hid hi; have hb := Lib.hid hb)
                go_roundw
                case rel => exact ⟨k + 2, f, acc ++ oneB d, by omega, by go_num, Lib.hid ⟨by omega, by rw [oneB_size]; omega, hr2.out⟩, hi, hb⟩
                case measure => simp [intOf]; omega
          · rw [if_neg hk1] at hr
            obtain ⟨e1, e2, e3⟩ : (⟨#[]⟩ : ByteArray) = r1 ∧ false = r2 ∧ s0_0 = r3 := by simpa [qtR] using hr
            subst e1; subst e2; subst e3
            have hne : ((k + 1 : Nat) : Int) = (s0_0.size : Int) := by omega
            clear hr
            go_wp2
            go_ret2
            exact ⟨rfl, quo_end hHI.out hHB.out hW.out⟩
        · rw [if_neg c92] at hr
          generalize hd : bt s0_0 k = d at *
          clear hd
          by_cases h1 : d < 32
          · by_cases h2 : d = 9
            · have hb0 : badI d = false := by rw [h2]; decide
              subst h2
              rw [if_neg (by rw [hb0]; decide)] at hr
              have hr2 := Lib.hid hr
              have HC := Lib.hid (Builder_WriteByte.calls w.heap.size acc 9 w wr zb17 zb17 hS.out hW.out zb17)
              clear hr hb0
              go_wp2_with (go_at_call 48; refine HC.out.mono ?_; rintro e w2 ⟨rfl, hi, hb⟩; have hi := Lib.hid hi; have hb := Lib.hid hb)
              go_roundw
              case rel => exact ⟨k + 1, f, acc ++ oneB 9, by omega, by go_num, Lib.hid ⟨by omega, by rw [oneB_size]; omega, hr2.out⟩, hi, hb⟩
              case measure => simp [intOf]; omega
            · have hb1 : badI d = true := badI_low h1 h2
              rw [if_pos hb1] at hr
              obtain ⟨e1, e2, e3⟩ : (⟨#[]⟩ : ByteArray) = r1 ∧ false = r2 ∧ s0_0 = r3 := by simpa [qtR] using hr
              subst e1; subst e2; subst e3
              clear hr hb1
              go_wp2
              go_ret2
              exact ⟨rfl, quo_end hHI.out hHB.out hW.out⟩
          · by_cases h3 : d = 127
            · have hb1 : badI d = true := by rw [h3]; decide
              subst h3
              rw [if_pos hb1] at hr
              obtain ⟨e1, e2, e3⟩ : (⟨#[]⟩ : ByteArray) = r1 ∧ false = r2 ∧ s0_0 = r3 := by simpa [qtR] using hr
              subst e1; subst e2; subst e3
              clear hr hb1
              go_wp2
              go_ret2
              exact ⟨rfl, quo_end hHI.out hHB.out hW.out⟩
            · have hb0 : badI d = false := badI_no h1 h3
              rw [if_neg (by rw [hb0]; decide)] at hr
              have hr2 := Lib.hid hr
              have HC := Lib.hid (Builder_WriteByte.calls w.heap.size acc d w wr zb17 zb17 hS.out hW.out zb17)
              clear hr hb0
              go_wp2_with (go_at_call 48; refine HC.out.mono ?_; rintro e w2 ⟨rfl, hi, hb⟩; have hi := Lib.hid hi; have hb := Lib.hid hb)
              go_roundw
              case rel => exact ⟨k + 1, f, acc ++ oneB d, by omega, by go_num, Lib.hid ⟨by omega, by rw [oneB_size]; omega, hr2.out⟩, hi, hb⟩
              case measure => simp [intOf]; omega
    · obtain rfl : k = s0_0.size := by omega
      have hr := hq.out.2.2
      rw [qtF, if_neg zb17] at hr
      obtain ⟨e1, e2, e3⟩ : (⟨#[]⟩ : ByteArray) = r1 ∧ false = r2 ∧ s0_0 = r3 := by simpa [qtR] using hr
      subst e1; subst e2; subst e3
      clear hr hq
      go_wp2
      go_ret2
      exact ⟨rfl, quo_end hHI.out hHB.out hW.out⟩
end Go.Proofs.YteonhdfjfjpbjaaGreatDoor.O
/- Px8 -/
namespace Go.Proofs.YteonhdfjfjpbjaaGreatDoor.P
open Go.Proofs.YteonhdfjfjpbjaaGreatDoor.B
open Go.RowKit Go.Proofs.YteonhdfjfjpbjaaGreatDoorW.PrintWords Go.Proofs.YteonhdfjfjpbjaaGreatDoorW.PrintLast Go.Proofs.YteonhdfjfjpbjaaGreatDoorW.PrintMore
attribute [local go_sem] str_leq str_gtr str_geq max2_int min2_int max_two min_two max_three min_three max_four min_four
set_option linter.unusedVariables false
set_option linter.unusedSimpArgs false
open Go.Proofs.YteonhdfjfjpbjaaGreatDoor.O
def media_Text_Value.f (k : Nat) (s0_0 : ByteArray) : Option (ByteArray × Bool × ByteArray) := (media_Text_Take.f s0_0 (⟨#[34]⟩ : ByteArray)).bind fun bt108 => (if bt108.1 = true then ((Text_Quoted.f bt108.2).bind fun bt110 => (some (bt110.1, bt110.2.1, bt110.2.2))) else ((media_Text_Token.f k bt108.2).bind fun bt113 => (some (bt113.1, (bt113.1.toList != ([] : List UInt8)), bt113.2))))
set_option maxHeartbeats 8000000 in
set_option maxRecDepth 100000 in
theorem media_Text_Value.calls (k : Nat) (g : Nat) (s0_0 : ByteArray) (r1 : ByteArray) (r2 : Bool) (r3 : ByteArray) (w0 w : World) (hI : IsS90 w0 w g s0_0) (hB : Below w0.heap.size w0 w) (h : media_Text_Value.f k s0_0 = some (r1, r2, r3)) :
  Calls Tryz.prog 95 #[.pointer (some ⟨g, 0, none⟩)] w fun e w' => e = .returned (.tuple #[.string r1, .bool r2]) ∧ IsS90 w0 w' g r3 ∧ Below w0.heap.size w0 w' ∧ KeepBut w w' g none := by
 have HI0 := Aside0.mk hI
 have HK := Aside0.mk (KeepBut.refl w g none)
 have HL := Aside0.mk hB.size
 clear hI
 have HW0 := Aside0.mk hB.size
 have HB := Aside0.mk hB
 clear hB
 have H : ((media_Text_Take.f s0_0 (⟨#[34]⟩ : ByteArray)).bind fun bt108 => (if bt108.1 = true then ((Text_Quoted.f bt108.2).bind fun bt110 => (some (bt110.1, bt110.2.1, bt110.2.2))) else ((media_Text_Token.f k bt108.2).bind fun bt113 => (some (bt113.1, (bt113.1.toList != ([] : List UInt8)), bt113.2))))) = some (r1, r2, r3) := h
 clear h
 replace H := Option.bind_eq_some_iff.mp H
 obtain ⟨⟨t108, t109⟩, A20, H⟩ := H
 replace H : (if t108 = true then ((Text_Quoted.f t109).bind fun bt110 => (some (bt110.1, bt110.2.1, bt110.2.2))) else ((media_Text_Token.f k t109).bind fun bt113 => (some (bt113.1, (bt113.1.toList != ([] : List UInt8)), bt113.2)))) = some (r1, r2, r3) := H
 have A2 := Aside0.mk A20
 clear A20
 by_cases c3 : t108 = true
 ·subst c3
  replace H : ((Text_Quoted.f t109).bind fun bt110 => (some (bt110.1, bt110.2.1, bt110.2.2))) = some (r1, r2, r3) := by rw [if_pos rfl] at H; exact H
  replace H := Option.bind_eq_some_iff.mp H
  obtain ⟨⟨t110, t111, t112⟩, A40, H⟩ := H
  replace H : (some (t110, t111, t112)) = some (r1, r2, r3) := H
  have A4 := Aside0.mk A40
  clear A40
  simp only [Option.some.injEq, Prod.mk.injEq] at H
  obtain ⟨rfl, rfl, rfl⟩ := H
  go_enter Tryz.func95, Tryz.ntmps95
  go_wp2_with (first | ((with_reducible refine gate_callee (f := 94) rfl ?_); refine goesL_ (some 6) rfl rfl Tryz.func94 zb15 rfl #[.pointer (some ⟨g, 0, none⟩), .string (⟨#[34]⟩ : ByteArray)] rfl zb1 ?_; (with_reducible refine (media_Text_Take.calls g s0_0 (⟨#[34]⟩ : ByteArray) true t109 w0 _ ?side1 ?side2 A2.out).mono ?_); (case side1 => repeat (first | (with_reducible first | exact HI0.out | apply IsS90.alloc | apply IsS90.drewN | apply IsS90.drew | apply IsS90.set_0) | exact HI0.out)); (case side2 => repeat (first | (with_reducible first | exact HB.out | apply below_alloc | apply pw_below_drewN | apply below_drew1 | refine below_set ?_ (IsS90.ge HI0.out)) | exact HB.out)); rintro e w5 ⟨rfl, hi, hb, hk⟩; refine ⟨_, rfl, ?_⟩; have n0_ := Aside0.mk (KeepBut.trans zb9 hk (.inl rfl)); have n1_ := Aside0.mk (hb); have n2_ := Aside0.mk (hi); clear HK; clear HB; clear HI0; have HK := n0_; have HB := n1_; have HI0 := n2_; clear n0_ n1_ n2_; (try clear hb); (try clear hb2); (try clear hk); (try clear hi)) | ((with_reducible refine gate_callee (f := 127) rfl ?_); refine goesL_ (some 8) rfl rfl Tryz.func127 zb15 rfl #[.pointer (some ⟨g, 0, none⟩)] rfl zb1 ?_; (with_reducible refine (Text_Quoted.calls g t109 t110 t111 t112 w0 _ ?side1 ?side2 A4.out).mono ?_); (case side1 => repeat (first | (with_reducible first | exact HI0.out | apply IsS90.alloc | apply IsS90.drewN | apply IsS90.drew | apply IsS90.set_0) | exact HI0.out)); (case side2 => repeat (first | (with_reducible first | exact HB.out | apply below_alloc | apply pw_below_drewN | apply below_drew1 | refine below_set ?_ (IsS90.ge HI0.out)) | exact HB.out)); rintro e w6 ⟨rfl, hi, hb, hk⟩; refine ⟨_, rfl, ?_⟩; have n0_ := Aside0.mk (KeepBut.trans zb9 hk (.inl rfl)); have n1_ := Aside0.mk (hb); have n2_ := Aside0.mk (hi); clear HK; clear HB; clear HI0; have HK := n0_; have HB := n1_; have HI0 := n2_; clear n0_ n1_ n2_; (try clear hb); (try clear hb2); (try clear hk); (try clear hi)))
  go_ret2
  exact ⟨zb4, by repeat (first | (with_reducible first | exact HI0.out | apply IsS90.alloc | apply IsS90.drewN | apply IsS90.drew | apply IsS90.set_0) | exact HI0.out), by repeat (first | (with_reducible first | exact HB.out | apply below_alloc | apply pw_below_drewN | apply below_drew1 | refine below_set ?_ (IsS90.ge HI0.out)) | exact HB.out), by repeat (first | (with_reducible first | exact HK.out | apply KeepBut.set_ | apply keep_drewN | apply keep_drew | apply keep_alloc) | exact HK.out)⟩
 ·replace c3 := Bool.eq_false_iff.mpr c3
  subst c3
  replace H : ((media_Text_Token.f k t109).bind fun bt113 => (some (bt113.1, (bt113.1.toList != ([] : List UInt8)), bt113.2))) = some (r1, r2, r3) := by rw [if_neg (show ¬ (false = true) by decide)] at H; exact H
  replace H := Option.bind_eq_some_iff.mp H
  obtain ⟨⟨t113, t114⟩, A70, H⟩ := H
  replace H : (some (t113, (t113.toList != ([] : List UInt8)), t114)) = some (r1, r2, r3) := H
  have A7 := Aside0.mk A70
  clear A70
  simp only [Option.some.injEq, Prod.mk.injEq] at H
  obtain ⟨rfl, rfl, rfl⟩ := H
  go_enter Tryz.func95, Tryz.ntmps95
  go_wp2_with (first | ((with_reducible refine gate_callee (f := 94) rfl ?_); refine goesL_ (some 6) rfl rfl Tryz.func94 zb15 rfl #[.pointer (some ⟨g, 0, none⟩), .string (⟨#[34]⟩ : ByteArray)] rfl zb1 ?_; (with_reducible refine (media_Text_Take.calls g s0_0 (⟨#[34]⟩ : ByteArray) false t109 w0 _ ?side1 ?side2 A2.out).mono ?_); (case side1 => repeat (first | (with_reducible first | exact HI0.out | apply IsS90.alloc | apply IsS90.drewN | apply IsS90.drew | apply IsS90.set_0) | exact HI0.out)); (case side2 => repeat (first | (with_reducible first | exact HB.out | apply below_alloc | apply pw_below_drewN | apply below_drew1 | refine below_set ?_ (IsS90.ge HI0.out)) | exact HB.out)); rintro e w8 ⟨rfl, hi, hb, hk⟩; refine ⟨_, rfl, ?_⟩; have n0_ := Aside0.mk (KeepBut.trans zb9 hk (.inl rfl)); have n1_ := Aside0.mk (hb); have n2_ := Aside0.mk (hi); clear HK; clear HB; clear HI0; have HK := n0_; have HB := n1_; have HI0 := n2_; clear n0_ n1_ n2_; (try clear hb); (try clear hb2); (try clear hk); (try clear hi)) | ((with_reducible refine gate_callee (f := 70) rfl ?_); refine goesL_ (some 12) rfl rfl Tryz.func70 zb15 rfl #[.pointer (some ⟨g, 0, none⟩)] rfl zb1 ?_; (with_reducible refine (media_Text_Token.calls k g t109 t113 t114 w0 _ ?side1 ?side2 A7.out).mono ?_); (case side1 => repeat (first | (with_reducible first | exact HI0.out | apply IsS90.alloc | apply IsS90.drewN | apply IsS90.drew | apply IsS90.set_0) | exact HI0.out)); (case side2 => repeat (first | (with_reducible first | exact HB.out | apply below_alloc | apply pw_below_drewN | apply below_drew1 | refine below_set ?_ (IsS90.ge HI0.out)) | exact HB.out)); rintro e w9 ⟨rfl, hi, hb, hk⟩; refine ⟨_, rfl, ?_⟩; have n0_ := Aside0.mk (KeepBut.trans zb9 hk (.inl rfl)); have n1_ := Aside0.mk (hb); have n2_ := Aside0.mk (hi); clear HK; clear HB; clear HI0; have HK := n0_; have HB := n1_; have HI0 := n2_; clear n0_ n1_ n2_; (try clear hb); (try clear hb2); (try clear hk); (try clear hi)))
  go_ret2
  exact ⟨zb4, by repeat (first | (with_reducible first | exact HI0.out | apply IsS90.alloc | apply IsS90.drewN | apply IsS90.drew | apply IsS90.set_0) | exact HI0.out), by repeat (first | (with_reducible first | exact HB.out | apply below_alloc | apply pw_below_drewN | apply below_drew1 | refine below_set ?_ (IsS90.ge HI0.out)) | exact HB.out), by repeat (first | (with_reducible first | exact HK.out | apply KeepBut.set_ | apply keep_drewN | apply keep_drew | apply keep_alloc) | exact HK.out)⟩
mutual
def media_Text_Params.l0 : Nat → List (S49) → ByteArray → Option ((List (S49)) × Bool × ByteArray)
  | 0, _, _ => none
  | k + 1, x2, x1000 => if x1000.toList = ([] : List UInt8) then (some (x2, true, x1000)) else ((media_Text_Take.f x1000 (⟨#[59]⟩ : ByteArray)).bind fun bt116 => (if bt116.1 = true then ((media_Text_Skip.f bt116.2).bind fun t118 => ((media_Text_Token.f k t118).bind fun bt119 => (if bt119.1.toList = ([] : List UInt8) then (media_Text_Params.j1 k x2 bt119.1 true bt119.2) else ((media_Text_Take.f bt119.2 (⟨#[61]⟩ : ByteArray)).bind fun bt121 => (media_Text_Params.j1 k x2 bt119.1 (!bt121.1) bt121.2))))) else (some (([] : List (S49)), false, bt116.2))))
def media_Text_Params.j1 : Nat → List (S49) → ByteArray → Bool → ByteArray → Option ((List (S49)) × Bool × ByteArray)
  | 0, _, _, _, _ => none
  | k + 1, x2, x4, x28, x1000 => if x28 = true then (some (([] : List (S49)), false, x1000)) else ((media_Text_Value.f k x1000).bind fun bt123 => (if bt123.2.1 = true then ((media_Small.f x4).bind fun t126 => (if x2.length < 4398046511104 then ((media_Text_Skip.f bt123.2.2).bind fun t130 => (media_Text_Params.l0 k (x2 ++ [(⟨t126, bt123.1⟩ : S49)]) t130)) else (none))) else (some (([] : List (S49)), false, bt123.2.2))))
end
def media_Text_Params.f (k : Nat) (s0_0 : ByteArray) : Option ((List (S49)) × Bool × ByteArray) := (media_Text_Skip.f s0_0).bind fun t115 => (media_Text_Params.l0 k ([] : List (S49)) t115)
set_option maxHeartbeats 8000000 in
set_option maxRecDepth 100000 in
theorem media_Text_Params.calls (k : Nat) (g : Nat) (s0_0 : ByteArray) (r1 : List (S49)) (r2 : Bool) (r3 : ByteArray) (w0 w : World) (hI : IsS90 w0 w g s0_0) (hB : Below w0.heap.size w0 w) (h : media_Text_Params.f k s0_0 = some (r1, r2, r3)) :
  Calls Tryz.prog 59 #[.pointer (some ⟨g, 0, none⟩)] w fun e w' => ∃ v0_ : Value, e = .returned (.tuple #[v0_, .bool r2]) ∧ Kd.R k49 49 w' w.heap.size (fun _ => True) v0_ r1 ∧ IsS90 w0 w' g r3 ∧ Below w0.heap.size w0 w' ∧ KeepBut w w' g none := by
 have hu49 := Tryz.underlying49
 have HI0 := Aside0.mk hI
 have HK := Aside0.mk (KeepBut.refl w g none)
 have HL := Aside0.mk hB.size
 clear hI
 have HW0 := Aside0.mk hB.size
 have HB := Aside0.mk hB
 clear hB
 have H : ((media_Text_Skip.f s0_0).bind fun t115 => (media_Text_Params.l0 k ([] : List (S49)) t115)) = some (r1, r2, r3) := h
 clear h
 replace H := Option.bind_eq_some_iff.mp H
 obtain ⟨t115, A20, H⟩ := H
 replace H : (media_Text_Params.l0 k ([] : List (S49)) t115) = some (r1, r2, r3) := H
 have A2 := Aside0.mk A20
 clear A20
 have H' := Aside0.mk H
 clear H
 go_enter Tryz.func59, Tryz.ntmps59
 go_wp2_with (first | ((with_reducible refine gate_callee (f := 93) rfl ?_); refine goesL_ (some 8) rfl rfl Tryz.func93 zb15 rfl #[.pointer (some ⟨g, 0, none⟩)] rfl zb1 ?_; (with_reducible refine (media_Text_Skip.calls g s0_0 t115 w0 _ ?side1 ?side2 A2.out).mono ?_); (case side1 => repeat (first | (with_reducible first | exact HI0.out | apply IsS90.alloc | apply IsS90.drewN | apply IsS90.drew | apply IsS90.set_0) | exact HI0.out)); (case side2 => repeat (first | (with_reducible first | exact HB.out | apply below_alloc | apply pw_below_drewN | apply below_drew1 | refine below_set ?_ (IsS90.ge HI0.out)) | exact HB.out)); rintro e w3 ⟨rfl, hi, hb, hk⟩; refine ⟨_, rfl, ?_⟩; have n0_ := Aside0.mk (KeepBut.trans zb9 hk (.inl rfl)); have n1_ := Aside0.mk (hb); have n2_ := Aside0.mk (hi); clear HK; clear HB; clear HI0; have HK := n0_; have HB := n1_; have HI0 := n2_; clear n0_ n1_ n2_; (try clear hb); (try clear hb2); (try clear hk); (try clear hi)))
 first | go_loopg [2] k (fun kq v2 w' => ∃ (x2_1 : List (S49)) (x1000_1 : ByteArray), Aside0 (media_Text_Params.l0 kq x2_1 x1000_1 = some (r1, r2, r3)) ∧ Aside0 (kq ≤ k) ∧ Aside0 (Kd.R k49 49 w' w.heap.size (fun _ => True) v2 x2_1) ∧ Aside0 (IsS90 w0 w' g x1000_1) ∧ Aside0 (KeepBut w w' g none) ∧ Aside0 (Below w0.heap.size w0 w')) | (go_simp; go_loopg [2] k (fun kq v2 w' => ∃ (x2_1 : List (S49)) (x1000_1 : ByteArray), Aside0 (media_Text_Params.l0 kq x2_1 x1000_1 = some (r1, r2, r3)) ∧ Aside0 (kq ≤ k) ∧ Aside0 (Kd.R k49 49 w' w.heap.size (fun _ => True) v2 x2_1) ∧ Aside0 (IsS90 w0 w' g x1000_1) ∧ Aside0 (KeepBut w w' g none) ∧ Aside0 (Below w0.heap.size w0 w')))
 case atStart => exact ⟨(([] : List (S49))), (t115), H', ⟨Nat.le_refl _⟩, ⟨by first | exact Kd.R_nil _ _ _ _ _ | exact Kd.N_nil _ _ _ _ _ | exact Kd.V_nil _ _ _ _ _ | exact Kd.Q_nil _ _ _ _ _ | exact Kd.S_nil _ _ _ _ _⟩, ⟨by repeat (first | (with_reducible first | exact HI0.out | apply IsS90.alloc | apply IsS90.drewN | apply IsS90.drew | apply IsS90.set_0) | exact HI0.out)⟩, ⟨by repeat (first | (with_reducible first | exact HK.out | apply KeepBut.set_ | apply keep_drewN | apply keep_drew | apply keep_alloc) | exact HK.out)⟩, ⟨by repeat (first | (with_reducible first | exact HB.out | apply below_alloc | apply pw_below_drewN | apply below_drew1 | refine below_set ?_ (IsS90.ge HI0.out)) | exact HB.out)⟩⟩
 case round =>
  clear H'
  try clear p2
  obtain ⟨x2_1, x1000_1, HA, HK1, HO_2, HI0, HK, HB⟩ := hrel
  cases gk with
  | zero => exact absurd HA.out (by simp [media_Text_Params.l0])
  | succ k1 =>
   have H := HA.out
   clear HA
   simp only [media_Text_Params.l0] at H
   by_cases c4 : x1000_1.toList = ([] : List UInt8)
   ·rw [if_pos c4] at H
    have c4b0 : (x1000_1.toList == ([] : List UInt8)) = true := beq_iff_eq.mpr c4
    have c4b1 : (x1000_1.toList != ([] : List UInt8)) = false := bne_eq_false_iff_eq.mpr c4
    clear c4
    simp only [Option.some.injEq, Prod.mk.injEq] at H
    obtain ⟨rfl, rfl, rfl⟩ := H
    obtain ⟨HGz5, hgz5⟩ := HI0.out
    have hcz5_0 := cellS90_0 HGz5
    have hfz5_0 := blk_frozen HGz5 0
    clear HGz5 hgz5
    go_wp2
    go_ret2
    exact ⟨_, by first | rfl | (simp [errW_none, errW_some, bne_nil_] <;> rfl) | (simp [*, errW_none, errW_some] <;> rfl), by (with_reducible repeat (first | apply Kd.R_alloc | apply Kd.R_drewN | apply Kd.R_drew)); exact HO_2.out, by repeat (first | (with_reducible first | exact HI0.out | apply IsS90.alloc | apply IsS90.drewN | apply IsS90.drew | apply IsS90.set_0) | exact HI0.out), by repeat (first | (with_reducible first | exact HB.out | apply below_alloc | apply pw_below_drewN | apply below_drew1 | refine below_set ?_ (IsS90.ge HI0.out)) | exact HB.out), by repeat (first | (with_reducible first | exact HK.out | apply KeepBut.set_ | apply keep_drewN | apply keep_drew | apply keep_alloc) | exact HK.out)⟩
   ·rw [if_neg c4] at H
    have c4b0 : (x1000_1.toList == ([] : List UInt8)) = false := beq_eq_false_iff_ne.mpr c4
    have c4b1 : (x1000_1.toList != ([] : List UInt8)) = true := bne_iff_ne.mpr c4
    replace H := Option.bind_eq_some_iff.mp H
    obtain ⟨⟨t116, t117⟩, A60, H⟩ := H
    replace H : (if t116 = true then ((media_Text_Skip.f t117).bind fun t118 => ((media_Text_Token.f k1 t118).bind fun bt119 => (if bt119.1.toList = ([] : List UInt8) then (media_Text_Params.j1 k1 x2_1 bt119.1 true bt119.2) else ((media_Text_Take.f bt119.2 (⟨#[61]⟩ : ByteArray)).bind fun bt121 => (media_Text_Params.j1 k1 x2_1 bt119.1 (!bt121.1) bt121.2))))) else (some (([] : List (S49)), false, t117))) = some (r1, r2, r3) := H
    have A6 := Aside0.mk A60
    clear A60
    by_cases c7 : t116 = true
    ·subst c7
     replace H : ((media_Text_Skip.f t117).bind fun t118 => ((media_Text_Token.f k1 t118).bind fun bt119 => (if bt119.1.toList = ([] : List UInt8) then (media_Text_Params.j1 k1 x2_1 bt119.1 true bt119.2) else ((media_Text_Take.f bt119.2 (⟨#[61]⟩ : ByteArray)).bind fun bt121 => (media_Text_Params.j1 k1 x2_1 bt119.1 (!bt121.1) bt121.2))))) = some (r1, r2, r3) := by rw [if_pos rfl] at H; exact H
     replace H := Option.bind_eq_some_iff.mp H
     obtain ⟨t118, A80, H⟩ := H
     replace H : ((media_Text_Token.f k1 t118).bind fun bt119 => (if bt119.1.toList = ([] : List UInt8) then (media_Text_Params.j1 k1 x2_1 bt119.1 true bt119.2) else ((media_Text_Take.f bt119.2 (⟨#[61]⟩ : ByteArray)).bind fun bt121 => (media_Text_Params.j1 k1 x2_1 bt119.1 (!bt121.1) bt121.2)))) = some (r1, r2, r3) := H
     have A8 := Aside0.mk A80
     clear A80
     replace H := Option.bind_eq_some_iff.mp H
     obtain ⟨⟨t119, t120⟩, A90, H⟩ := H
     replace H : (if t119.toList = ([] : List UInt8) then (media_Text_Params.j1 k1 x2_1 t119 true t120) else ((media_Text_Take.f t120 (⟨#[61]⟩ : ByteArray)).bind fun bt121 => (media_Text_Params.j1 k1 x2_1 t119 (!bt121.1) bt121.2))) = some (r1, r2, r3) := H
     have A9 := Aside0.mk A90
     clear A90
     have HC10 := Aside0.mk H
     clear H
     obtain ⟨HGz11, hgz11⟩ := HI0.out
     have hcz11_0 := cellS90_0 HGz11
     have hfz11_0 := blk_frozen HGz11 0
     clear HGz11 hgz11
     go_upto_region 8 with (first | ((with_reducible refine gate_callee (f := 94) rfl ?_); refine goesL_ (some 16) rfl rfl Tryz.func94 zb15 rfl #[.pointer (some ⟨g, 0, none⟩), .string (⟨#[59]⟩ : ByteArray)] rfl zb1 ?_; (with_reducible refine (media_Text_Take.calls g x1000_1 (⟨#[59]⟩ : ByteArray) true t117 w0 _ ?side1 ?side2 A6.out).mono ?_); (case side1 => repeat (first | (with_reducible first | exact HI0.out | apply IsS90.alloc | apply IsS90.drewN | apply IsS90.drew | apply IsS90.set_0) | exact HI0.out)); (case side2 => repeat (first | (with_reducible first | exact HB.out | apply below_alloc | apply pw_below_drewN | apply below_drew1 | refine below_set ?_ (IsS90.ge HI0.out)) | exact HB.out)); rintro e w12 ⟨rfl, hi, hb, hk⟩; refine ⟨_, rfl, ?_⟩; have n0_ := Aside0.mk (Kd.R_mono (Kd.R_keep (IsS90.apart (show IsS90 w0 _ g x1000_1 from by repeat (first | (with_reducible first | exact HI0.out | apply IsS90.alloc | apply IsS90.drewN | apply IsS90.drew | apply IsS90.set_0) | exact HI0.out)) zb21 zb20) hk (fun _ h => h.2)) (fun _ h => h.1)); have n1_ := Aside0.mk (KeepBut.trans zb9 hk (.inl rfl)); have n2_ := Aside0.mk (hb); have n3_ := Aside0.mk (hi); clear HO_2; clear HK; clear HB; clear HI0; have HO_2 := n0_; have HK := n1_; have HB := n2_; have HI0 := n3_; clear n0_ n1_ n2_ n3_; (try clear hb); (try clear hb2); (try clear hk); (try clear hi)) | ((with_reducible refine gate_callee (f := 93) rfl ?_); refine goesL_ (some 19) rfl rfl Tryz.func93 zb15 rfl #[.pointer (some ⟨g, 0, none⟩)] rfl zb1 ?_; (with_reducible refine (media_Text_Skip.calls g t117 t118 w0 _ ?side1 ?side2 A8.out).mono ?_); (case side1 => repeat (first | (with_reducible first | exact HI0.out | apply IsS90.alloc | apply IsS90.drewN | apply IsS90.drew | apply IsS90.set_0) | exact HI0.out)); (case side2 => repeat (first | (with_reducible first | exact HB.out | apply below_alloc | apply pw_below_drewN | apply below_drew1 | refine below_set ?_ (IsS90.ge HI0.out)) | exact HB.out)); rintro e w13 ⟨rfl, hi, hb, hk⟩; refine ⟨_, rfl, ?_⟩; have n0_ := Aside0.mk (Kd.R_mono (Kd.R_keep (IsS90.apart (show IsS90 w0 _ g t117 from by repeat (first | (with_reducible first | exact HI0.out | apply IsS90.alloc | apply IsS90.drewN | apply IsS90.drew | apply IsS90.set_0) | exact HI0.out)) zb21 zb20) hk (fun _ h => h.2)) (fun _ h => h.1)); have n1_ := Aside0.mk (KeepBut.trans zb9 hk (.inl rfl)); have n2_ := Aside0.mk (hb); have n3_ := Aside0.mk (hi); clear HO_2; clear HK; clear HB; clear HI0; have HO_2 := n0_; have HK := n1_; have HB := n2_; have HI0 := n3_; clear n0_ n1_ n2_ n3_; (try clear hb); (try clear hb2); (try clear hk); (try clear hi)) | ((with_reducible refine gate_callee (f := 70) rfl ?_); refine goesL_ (some 21) rfl rfl Tryz.func70 zb15 rfl #[.pointer (some ⟨g, 0, none⟩)] rfl zb1 ?_; (with_reducible refine (media_Text_Token.calls k1 g t118 t119 t120 w0 _ ?side1 ?side2 A9.out).mono ?_); (case side1 => repeat (first | (with_reducible first | exact HI0.out | apply IsS90.alloc | apply IsS90.drewN | apply IsS90.drew | apply IsS90.set_0) | exact HI0.out)); (case side2 => repeat (first | (with_reducible first | exact HB.out | apply below_alloc | apply pw_below_drewN | apply below_drew1 | refine below_set ?_ (IsS90.ge HI0.out)) | exact HB.out)); rintro e w14 ⟨rfl, hi, hb, hk⟩; refine ⟨_, rfl, ?_⟩; have n0_ := Aside0.mk (Kd.R_mono (Kd.R_keep (IsS90.apart (show IsS90 w0 _ g t118 from by repeat (first | (with_reducible first | exact HI0.out | apply IsS90.alloc | apply IsS90.drewN | apply IsS90.drew | apply IsS90.set_0) | exact HI0.out)) zb21 zb20) hk (fun _ h => h.2)) (fun _ h => h.1)); have n1_ := Aside0.mk (KeepBut.trans zb9 hk (.inl rfl)); have n2_ := Aside0.mk (hb); have n3_ := Aside0.mk (hi); clear HO_2; clear HK; clear HB; clear HI0; have HO_2 := n0_; have HK := n1_; have HB := n2_; have HI0 := n3_; clear n0_ n1_ n2_ n3_; (try clear hb); (try clear hb2); (try clear hk); (try clear hi)))
     (try simp only [Act.put, List.setIfInBounds_toArray, List.set_cons_zero, List.set_cons_succ])
     go_cut [28] (fun v28 wc => ∃ (kq : Nat) (x28_9 : Bool) (x1000_9 : ByteArray), v28 = .bool x28_9 ∧ Aside0 (media_Text_Params.j1 kq x2_1 t119 x28_9 x1000_9 = some (r1, r2, r3)) ∧ Aside0 (kq ≤ k1) ∧ Aside0 (Kd.R k49 49 wc w.heap.size (fun _ => True) u2 x2_1) ∧ Aside0 (IsS90 w0 wc g x1000_9) ∧ Aside0 (KeepBut w wc g none) ∧ Aside0 (Below w0.heap.size w0 wc))
     case first =>
      have H := HC10.out
      clear HC10
      by_cases c15 : t119.toList = ([] : List UInt8)
      ·rw [if_pos c15] at H
       have c15b0 : (t119.toList == ([] : List UInt8)) = true := beq_iff_eq.mpr c15
       have c15b1 : (t119.toList != ([] : List UInt8)) = false := bne_eq_false_iff_eq.mpr c15
       clear c15
       (first | rw [c15b0] | (simp only [i64_w, i32_w]; rw [c15b0]) | skip)
       have H' := Aside0.mk H
       clear H
       go_wp2
       go_meet
       case rel => exact ⟨_, (true), (t120), zb6, H', ⟨by have := HK1.out; first | omega | exact Nat.le_refl _⟩, ⟨by (with_reducible repeat (first | apply Kd.R_alloc | apply Kd.R_drewN | apply Kd.R_drew)); exact HO_2.out⟩, ⟨by repeat (first | (with_reducible first | exact HI0.out | apply IsS90.alloc | apply IsS90.drewN | apply IsS90.drew | apply IsS90.set_0) | exact HI0.out)⟩, ⟨by repeat (first | (with_reducible first | exact HK.out | apply KeepBut.set_ | apply keep_drewN | apply keep_drew | apply keep_alloc) | exact HK.out)⟩, ⟨by repeat (first | (with_reducible first | exact HB.out | apply below_alloc | apply pw_below_drewN | apply below_drew1 | refine below_set ?_ (IsS90.ge HI0.out)) | exact HB.out)⟩⟩
      ·rw [if_neg c15] at H
       have c15b0 : (t119.toList == ([] : List UInt8)) = false := beq_eq_false_iff_ne.mpr c15
       have c15b1 : (t119.toList != ([] : List UInt8)) = true := bne_iff_ne.mpr c15
       (first | rw [c15b0] | (simp only [i64_w, i32_w]; rw [c15b0]) | skip)
       replace H := Option.bind_eq_some_iff.mp H
       obtain ⟨⟨t121, t122⟩, A160, H⟩ := H
       replace H : (media_Text_Params.j1 k1 x2_1 t119 (!t121) t122) = some (r1, r2, r3) := H
       have A16 := Aside0.mk A160
       clear A160
       have H' := Aside0.mk H
       clear H
       go_wp2_with (first | (go_at_call 94; (with_reducible refine (media_Text_Take.calls g t120 (⟨#[61]⟩ : ByteArray) t121 t122 w0 _ ?side1 ?side2 A16.out).mono ?_); (case side1 => repeat (first | (with_reducible first | exact HI0.out | apply IsS90.alloc | apply IsS90.drewN | apply IsS90.drew | apply IsS90.set_0) | exact HI0.out)); (case side2 => repeat (first | (with_reducible first | exact HB.out | apply below_alloc | apply pw_below_drewN | apply below_drew1 | refine below_set ?_ (IsS90.ge HI0.out)) | exact HB.out)); rintro e w17 ⟨rfl, hi, hb, hk⟩; have n0_ := Aside0.mk (Kd.R_mono (Kd.R_keep (IsS90.apart (show IsS90 w0 _ g t120 from by repeat (first | (with_reducible first | exact HI0.out | apply IsS90.alloc | apply IsS90.drewN | apply IsS90.drew | apply IsS90.set_0) | exact HI0.out)) zb21 zb20) hk (fun _ h => h.2)) (fun _ h => h.1)); have n1_ := Aside0.mk (KeepBut.trans zb9 hk (.inl rfl)); have n2_ := Aside0.mk (hb); have n3_ := Aside0.mk (hi); clear HO_2; clear HK; clear HB; clear HI0; have HO_2 := n0_; have HK := n1_; have HB := n2_; have HI0 := n3_; clear n0_ n1_ n2_ n3_; (try clear hb); (try clear hb2); (try clear hk); (try clear hi)))
       go_meet
       case rel => exact ⟨_, (!t121), (t122), zb6, H', ⟨by have := HK1.out; first | omega | exact Nat.le_refl _⟩, ⟨by (with_reducible repeat (first | apply Kd.R_alloc | apply Kd.R_drewN | apply Kd.R_drew)); exact HO_2.out⟩, ⟨by repeat (first | (with_reducible first | exact HI0.out | apply IsS90.alloc | apply IsS90.drewN | apply IsS90.drew | apply IsS90.set_0) | exact HI0.out)⟩, ⟨by repeat (first | (with_reducible first | exact HK.out | apply KeepBut.set_ | apply keep_drewN | apply keep_drew | apply keep_alloc) | exact HK.out)⟩, ⟨by repeat (first | (with_reducible first | exact HB.out | apply below_alloc | apply pw_below_drewN | apply below_drew1 | refine below_set ?_ (IsS90.ge HI0.out)) | exact HB.out)⟩⟩
     case rest =>
      clear HC10
      try clear c1
      try clear p2
      try clear c4
      try clear c4b0
      try clear c4b1
      try clear c5
      try clear c7
      try clear c9
      try clear c15
      try clear c15b0
      try clear c15b1
      try clear hcz11_0
      try clear hcz5_0
      try clear hfz11_0
      try clear hfz5_0
      try clear p2
      obtain ⟨kq, x28_9, x1000_9, rfl, HA, HJ9, HO_2, HI0, HK, HB⟩ := hcut
      cases kq with
      | zero => exact absurd HA.out (by simp [media_Text_Params.j1])
      | succ kj9 =>
       have H := HA.out
       clear HA
       simp only [media_Text_Params.j1] at H
       by_cases c18 : x28_9 = true
       ·subst c18
        replace H : (some (([] : List (S49)), false, x1000_9)) = some (r1, r2, r3) := by rw [if_pos rfl] at H; exact H
        simp only [Option.some.injEq, Prod.mk.injEq] at H
        obtain ⟨rfl, rfl, rfl⟩ := H
        go_wp2
        go_ret2
        exact ⟨_, by first | rfl | (simp [errW_none, errW_some, bne_nil_] <;> rfl) | (simp [*, errW_none, errW_some] <;> rfl), by first | exact Kd.R_nil _ _ _ _ _ | exact Kd.N_nil _ _ _ _ _ | exact Kd.V_nil _ _ _ _ _ | exact Kd.Q_nil _ _ _ _ _ | exact Kd.S_nil _ _ _ _ _, by repeat (first | (with_reducible first | exact HI0.out | apply IsS90.alloc | apply IsS90.drewN | apply IsS90.drew | apply IsS90.set_0) | exact HI0.out), by repeat (first | (with_reducible first | exact HB.out | apply below_alloc | apply pw_below_drewN | apply below_drew1 | refine below_set ?_ (IsS90.ge HI0.out)) | exact HB.out), by repeat (first | (with_reducible first | exact HK.out | apply KeepBut.set_ | apply keep_drewN | apply keep_drew | apply keep_alloc) | exact HK.out)⟩
       ·replace c18 := Bool.eq_false_iff.mpr c18
        subst c18
        replace H : ((media_Text_Value.f kj9 x1000_9).bind fun bt123 => (if bt123.2.1 = true then ((media_Small.f t119).bind fun t126 => (if x2_1.length < 4398046511104 then ((media_Text_Skip.f bt123.2.2).bind fun t130 => (media_Text_Params.l0 kj9 (x2_1 ++ [(⟨t126, bt123.1⟩ : S49)]) t130)) else (none))) else (some (([] : List (S49)), false, bt123.2.2)))) = some (r1, r2, r3) := by rw [if_neg (show ¬ (false = true) by decide)] at H; exact H
        replace H := Option.bind_eq_some_iff.mp H
        obtain ⟨⟨t123, t124, t125⟩, A190, H⟩ := H
        replace H : (if t124 = true then ((media_Small.f t119).bind fun t126 => (if x2_1.length < 4398046511104 then ((media_Text_Skip.f t125).bind fun t130 => (media_Text_Params.l0 kj9 (x2_1 ++ [(⟨t126, t123⟩ : S49)]) t130)) else (none))) else (some (([] : List (S49)), false, t125))) = some (r1, r2, r3) := H
        have A19 := Aside0.mk A190
        clear A190
        by_cases c20 : t124 = true
        ·subst c20
         replace H : ((media_Small.f t119).bind fun t126 => (if x2_1.length < 4398046511104 then ((media_Text_Skip.f t125).bind fun t130 => (media_Text_Params.l0 kj9 (x2_1 ++ [(⟨t126, t123⟩ : S49)]) t130)) else (none))) = some (r1, r2, r3) := by rw [if_pos rfl] at H; exact H
         replace H := Option.bind_eq_some_iff.mp H
         obtain ⟨t126, A210, H⟩ := H
         replace H : (if x2_1.length < 4398046511104 then ((media_Text_Skip.f t125).bind fun t130 => (media_Text_Params.l0 kj9 (x2_1 ++ [(⟨t126, t123⟩ : S49)]) t130)) else (none)) = some (r1, r2, r3) := H
         have A21 := Aside0.mk A210
         clear A210
         by_cases c22 : x2_1.length < 4398046511104
         ·rw [if_pos c22] at H
          have LMc22 := Aside0.mk c22
          clear c22
          obtain ⟨y127, hy127⟩ : ∃ y_ : List (S49), y_ = (x2_1 ++ [(⟨t126, t123⟩ : S49)]) := ⟨_, rfl⟩
          replace H : ((media_Text_Skip.f t125).bind fun t130 => (media_Text_Params.l0 kj9 y127 t130)) = some (r1, r2, r3) := by first | (rw [hy127]; with_reducible exact H) | (have H2_ := (Option.bind_some _ _).symm.trans H; rw [hy127]; with_reducible exact H2_) | (have H2_ := (Option.bind_some _ _).symm.trans H; with_reducible exact H2_) | with_reducible exact H | (rw [hy127]; exact H) | exact H
          have Ny127 := Aside0.mk hy127
          clear hy127
          replace H := Option.bind_eq_some_iff.mp H
          obtain ⟨t130, A230, H⟩ := H
          replace H : (media_Text_Params.l0 kj9 y127 t130) = some (r1, r2, r3) := H
          have A23 := Aside0.mk A230
          clear A230
          have H' := Aside0.mk H
          clear H
          go_wp2_with (first | ((with_reducible refine gate_callee (f := 95) rfl ?_); refine goesL_ (some 31) rfl rfl Tryz.func95 zb15 rfl #[.pointer (some ⟨g, 0, none⟩)] rfl zb1 ?_; (with_reducible refine (media_Text_Value.calls kj9 g x1000_9 t123 true t125 w0 _ ?side1 ?side2 A19.out).mono ?_); (case side1 => repeat (first | (with_reducible first | exact HI0.out | apply IsS90.alloc | apply IsS90.drewN | apply IsS90.drew | apply IsS90.set_0) | exact HI0.out)); (case side2 => repeat (first | (with_reducible first | exact HB.out | apply below_alloc | apply pw_below_drewN | apply below_drew1 | refine below_set ?_ (IsS90.ge HI0.out)) | exact HB.out)); rintro e w24 ⟨rfl, hi, hb, hk⟩; refine ⟨_, rfl, ?_⟩; have n0_ := Aside0.mk (Kd.R_mono (Kd.R_keep (IsS90.apart (show IsS90 w0 _ g x1000_9 from by repeat (first | (with_reducible first | exact HI0.out | apply IsS90.alloc | apply IsS90.drewN | apply IsS90.drew | apply IsS90.set_0) | exact HI0.out)) zb21 zb20) hk (fun _ h => h.2)) (fun _ h => h.1)); have n1_ := Aside0.mk (KeepBut.trans zb9 hk (.inl rfl)); have n2_ := Aside0.mk (hb); have n3_ := Aside0.mk (hi); clear HO_2; clear HK; clear HB; clear HI0; have HO_2 := n0_; have HK := n1_; have HB := n2_; have HI0 := n3_; clear n0_ n1_ n2_ n3_; (try clear hb); (try clear hb2); (try clear hk); (try clear hi)) | ((with_reducible refine gate_callee (f := 50) rfl ?_); refine goesL_ (some 38) rfl rfl Tryz.func50 zb15 rfl #[.string t119] rfl zb1 ?_; (with_reducible refine (media_Small.calls t119 t126 _ A21.out).mono ?_); rintro e w25 ⟨rfl, hb⟩; refine ⟨_, rfl, ?_⟩; have n0_ := Aside0.mk (Kd.R_below zb21 hb); have n1_ := Aside0.mk (IsS90.below zb33 hb); have n2_ := Aside0.mk (KeepBut.trans zb9 (KeepBut.of_below hb g none) (.inl rfl)); have n3_ := Aside0.mk (below_step zb28 hb); clear HO_2; clear HI0; clear HK; clear HB; have HO_2 := n0_; have HI0 := n1_; have HK := n2_; have HB := n3_; clear n0_ n1_ n2_ n3_; (try clear hb); (try clear hb2); (try clear hk); (try clear hi)) | ((with_reducible refine gate_builtin (b := .append) (xs := #[.tmp 36, .tmp 41]) rfl ?_); at_builtin; refine Kd.R_append k49 w.heap.size rfl (.tmp 36) (.tmp 41) 34 49 (.agg #[(.string ⟨#[]⟩), (.string ⟨#[]⟩)]) 32 rfl Tryz.underlying34 info49 rfl zb20 zb17 u2 x2_1 (⟨t126, t123⟩ : S49) [.string t126, .string t123] (fun _ => True) (fun _ => False) rfl rfl ?aP (fun _ hk => hk.elim) ?aF ?aO (Below.refl _ _) ?aS ?aL ?_; (case aP => exact k49_mkM _ _ _ (⟨t126, t123⟩ : S49)); (case aF => exact (fun _ _ => trivial)); (case aO => exact zb21); (case aS => exact (keep_size (w := w) (g := g) (row := none) zb9)); (case aL => have := LMc22.out; omega); intro v128 w26 ho hb hg hat; rw [← Ny127.out] at ho; have n0_ := Aside0.mk (IsS90.grown zb33 hg (IsS90.own_far HI0.out HO_2.out zb20)); have n1_ := Aside0.mk (below_weaken zb28 HL.out hb); have n2_ := Aside0.mk (KeepBut.trans zb9 (KeepBut.of_grown hg g) (Kd.R_base2 HO_2.out)); have n3_ := Aside0.mk (ho); clear HI0; clear HB; clear HK; clear HO_2; have HI0 := n0_; have HB := n1_; have HK := n2_; have HO129 := n3_; clear n0_ n1_ n2_ n3_; clear ho hb hg hat) | ((with_reducible refine gate_callee (f := 93) rfl ?_); refine goesL_ (some 14) rfl rfl Tryz.func93 zb15 rfl #[.pointer (some ⟨g, 0, none⟩)] rfl zb1 ?_; (with_reducible refine (media_Text_Skip.calls g t125 t130 w0 _ ?side1 ?side2 A23.out).mono ?_); (case side1 => repeat (first | (with_reducible first | exact HI0.out | apply IsS90.alloc | apply IsS90.drewN | apply IsS90.drew | apply IsS90.set_0) | exact HI0.out)); (case side2 => repeat (first | (with_reducible first | exact HB.out | apply below_alloc | apply pw_below_drewN | apply below_drew1 | refine below_set ?_ (IsS90.ge HI0.out)) | exact HB.out)); rintro e w27 ⟨rfl, hi, hb, hk⟩; refine ⟨_, rfl, ?_⟩; have n0_ := Aside0.mk (Kd.R_mono (Kd.R_keep (IsS90.apart (show IsS90 w0 _ g t125 from by repeat (first | (with_reducible first | exact HI0.out | apply IsS90.alloc | apply IsS90.drewN | apply IsS90.drew | apply IsS90.set_0) | exact HI0.out)) (by (with_reducible repeat (first | apply Kd.R_alloc | apply Kd.R_drewN | apply Kd.R_drew)); exact HO129.out) zb20) hk (fun _ h => h.2)) (fun _ h => h.1)); have n1_ := Aside0.mk (KeepBut.trans zb9 hk (.inl rfl)); have n2_ := Aside0.mk (hb); have n3_ := Aside0.mk (hi); clear HO129; clear HK; clear HB; clear HI0; have HO129 := n0_; have HK := n1_; have HB := n2_; have HI0 := n3_; clear n0_ n1_ n2_ n3_; (try clear hb); (try clear hb2); (try clear hk); (try clear hi)))
          go_roundg kj9
          case measure => have := HK1.out; have := HJ9.out; omega
          case rel => exact ⟨(y127), (t130), H', ⟨by have := HK1.out; have := HJ9.out; omega⟩, ⟨by (with_reducible repeat (first | apply Kd.R_alloc | apply Kd.R_drewN | apply Kd.R_drew)); exact HO129.out⟩, ⟨by repeat (first | (with_reducible first | exact HI0.out | apply IsS90.alloc | apply IsS90.drewN | apply IsS90.drew | apply IsS90.set_0) | exact HI0.out)⟩, ⟨by repeat (first | (with_reducible first | exact HK.out | apply KeepBut.set_ | apply keep_drewN | apply keep_drew | apply keep_alloc) | exact HK.out)⟩, ⟨by repeat (first | (with_reducible first | exact HB.out | apply below_alloc | apply pw_below_drewN | apply below_drew1 | refine below_set ?_ (IsS90.ge HI0.out)) | exact HB.out)⟩⟩
         ·rw [if_neg c22] at H
          exact absurd H zb25
        ·replace c20 := Bool.eq_false_iff.mpr c20
         subst c20
         replace H : (some (([] : List (S49)), false, t125)) = some (r1, r2, r3) := by rw [if_neg (show ¬ (false = true) by decide)] at H; exact H
         simp only [Option.some.injEq, Prod.mk.injEq] at H
         obtain ⟨rfl, rfl, rfl⟩ := H
         go_wp2_with (first | ((with_reducible refine gate_callee (f := 95) rfl ?_); refine goesL_ (some 31) rfl rfl Tryz.func95 zb15 rfl #[.pointer (some ⟨g, 0, none⟩)] rfl zb1 ?_; (with_reducible refine (media_Text_Value.calls kj9 g x1000_9 t123 false t125 w0 _ ?side1 ?side2 A19.out).mono ?_); (case side1 => repeat (first | (with_reducible first | exact HI0.out | apply IsS90.alloc | apply IsS90.drewN | apply IsS90.drew | apply IsS90.set_0) | exact HI0.out)); (case side2 => repeat (first | (with_reducible first | exact HB.out | apply below_alloc | apply pw_below_drewN | apply below_drew1 | refine below_set ?_ (IsS90.ge HI0.out)) | exact HB.out)); rintro e w28 ⟨rfl, hi, hb, hk⟩; refine ⟨_, rfl, ?_⟩; have n0_ := Aside0.mk (Kd.R_mono (Kd.R_keep (IsS90.apart (show IsS90 w0 _ g x1000_9 from by repeat (first | (with_reducible first | exact HI0.out | apply IsS90.alloc | apply IsS90.drewN | apply IsS90.drew | apply IsS90.set_0) | exact HI0.out)) zb21 zb20) hk (fun _ h => h.2)) (fun _ h => h.1)); have n1_ := Aside0.mk (KeepBut.trans zb9 hk (.inl rfl)); have n2_ := Aside0.mk (hb); have n3_ := Aside0.mk (hi); clear HO_2; clear HK; clear HB; clear HI0; have HO_2 := n0_; have HK := n1_; have HB := n2_; have HI0 := n3_; clear n0_ n1_ n2_ n3_; (try clear hb); (try clear hb2); (try clear hk); (try clear hi)))
         go_ret2
         exact ⟨_, by first | rfl | (simp [errW_none, errW_some, bne_nil_] <;> rfl) | (simp [*, errW_none, errW_some] <;> rfl), by first | exact Kd.R_nil _ _ _ _ _ | exact Kd.N_nil _ _ _ _ _ | exact Kd.V_nil _ _ _ _ _ | exact Kd.Q_nil _ _ _ _ _ | exact Kd.S_nil _ _ _ _ _, by repeat (first | (with_reducible first | exact HI0.out | apply IsS90.alloc | apply IsS90.drewN | apply IsS90.drew | apply IsS90.set_0) | exact HI0.out), by repeat (first | (with_reducible first | exact HB.out | apply below_alloc | apply pw_below_drewN | apply below_drew1 | refine below_set ?_ (IsS90.ge HI0.out)) | exact HB.out), by repeat (first | (with_reducible first | exact HK.out | apply KeepBut.set_ | apply keep_drewN | apply keep_drew | apply keep_alloc) | exact HK.out)⟩
    ·replace c7 := Bool.eq_false_iff.mpr c7
     subst c7
     replace H : (some (([] : List (S49)), false, t117)) = some (r1, r2, r3) := by rw [if_neg (show ¬ (false = true) by decide)] at H; exact H
     simp only [Option.some.injEq, Prod.mk.injEq] at H
     obtain ⟨rfl, rfl, rfl⟩ := H
     obtain ⟨HGz29, hgz29⟩ := HI0.out
     have hcz29_0 := cellS90_0 HGz29
     have hfz29_0 := blk_frozen HGz29 0
     clear HGz29 hgz29
     go_wp2_with (first | ((with_reducible refine gate_callee (f := 94) rfl ?_); refine goesL_ (some 16) rfl rfl Tryz.func94 zb15 rfl #[.pointer (some ⟨g, 0, none⟩), .string (⟨#[59]⟩ : ByteArray)] rfl zb1 ?_; (with_reducible refine (media_Text_Take.calls g x1000_1 (⟨#[59]⟩ : ByteArray) false t117 w0 _ ?side1 ?side2 A6.out).mono ?_); (case side1 => repeat (first | (with_reducible first | exact HI0.out | apply IsS90.alloc | apply IsS90.drewN | apply IsS90.drew | apply IsS90.set_0) | exact HI0.out)); (case side2 => repeat (first | (with_reducible first | exact HB.out | apply below_alloc | apply pw_below_drewN | apply below_drew1 | refine below_set ?_ (IsS90.ge HI0.out)) | exact HB.out)); rintro e w30 ⟨rfl, hi, hb, hk⟩; refine ⟨_, rfl, ?_⟩; have n0_ := Aside0.mk (Kd.R_mono (Kd.R_keep (IsS90.apart (show IsS90 w0 _ g x1000_1 from by repeat (first | (with_reducible first | exact HI0.out | apply IsS90.alloc | apply IsS90.drewN | apply IsS90.drew | apply IsS90.set_0) | exact HI0.out)) zb21 zb20) hk (fun _ h => h.2)) (fun _ h => h.1)); have n1_ := Aside0.mk (KeepBut.trans zb9 hk (.inl rfl)); have n2_ := Aside0.mk (hb); have n3_ := Aside0.mk (hi); clear HO_2; clear HK; clear HB; clear HI0; have HO_2 := n0_; have HK := n1_; have HB := n2_; have HI0 := n3_; clear n0_ n1_ n2_ n3_; (try clear hb); (try clear hb2); (try clear hk); (try clear hi)))
     go_ret2
     exact ⟨_, by first | rfl | (simp [errW_none, errW_some, bne_nil_] <;> rfl) | (simp [*, errW_none, errW_some] <;> rfl), by first | exact Kd.R_nil _ _ _ _ _ | exact Kd.N_nil _ _ _ _ _ | exact Kd.V_nil _ _ _ _ _ | exact Kd.Q_nil _ _ _ _ _ | exact Kd.S_nil _ _ _ _ _, by repeat (first | (with_reducible first | exact HI0.out | apply IsS90.alloc | apply IsS90.drewN | apply IsS90.drew | apply IsS90.set_0) | exact HI0.out), by repeat (first | (with_reducible first | exact HB.out | apply below_alloc | apply pw_below_drewN | apply below_drew1 | refine below_set ?_ (IsS90.ge HI0.out)) | exact HB.out), by repeat (first | (with_reducible first | exact HK.out | apply KeepBut.set_ | apply keep_drewN | apply keep_drew | apply keep_alloc) | exact HK.out)⟩
end Go.Proofs.YteonhdfjfjpbjaaGreatDoor.P
/- Px12 -/
namespace Go.Proofs.YteonhdfjfjpbjaaGreatDoor.P
open Go.Proofs.YteonhdfjfjpbjaaGreatDoor.B
open Go.RowKit Go.Proofs.YteonhdfjfjpbjaaGreatDoorW.PrintWords Go.Proofs.YteonhdfjfjpbjaaGreatDoorW.PrintLast Go.Proofs.YteonhdfjfjpbjaaGreatDoorW.PrintMore
attribute [local go_sem] str_leq str_gtr str_geq max2_int min2_int max_two min_two max_three min_three max_four min_four
set_option linter.unusedVariables false
set_option linter.unusedSimpArgs false
def field_token.f (k : Nat) (a0 : ByteArray) : Option (Bool) := (media_Text_Token.f k a0).bind fun bt144 => (if bt144.1.toList = ([] : List UInt8) then (some false) else (some (bt144.2.toList == ([] : List UInt8))))
set_option maxHeartbeats 8000000 in
set_option maxRecDepth 100000 in
theorem field_token.calls (k : Nat) (a0 : ByteArray) (r : Bool) (w : World) (h : field_token.f k a0 = some r) :
  Calls Tryz.prog 98 #[.string a0] w fun e w' => e = .returned (.bool r) ∧ Below w.heap.size w w' := by
 have HB := Aside0.mk (Below.refl w.heap.size w)
 have H : ((media_Text_Token.f k a0).bind fun bt144 => (if bt144.1.toList = ([] : List UInt8) then (some false) else (some (bt144.2.toList == ([] : List UInt8))))) = some r := h
 clear h
 replace H := Option.bind_eq_some_iff.mp H
 obtain ⟨⟨t144, t145⟩, A20, H⟩ := H
 replace H : (if t144.toList = ([] : List UInt8) then (some false) else (some (t145.toList == ([] : List UInt8)))) = some r := H
 have A2 := Aside0.mk A20
 clear A20
 by_cases c3 : t144.toList = ([] : List UInt8)
 ·rw [if_pos c3] at H
  have c3b0 : (t144.toList == ([] : List UInt8)) = true := beq_iff_eq.mpr c3
  have c3b1 : (t144.toList != ([] : List UInt8)) = false := bne_eq_false_iff_eq.mpr c3
  clear c3
  obtain rfl := Option.some.inj H
  go_enter Tryz.func98, Tryz.ntmps98
  go_wp2_with (first | ((with_reducible refine gate_dst (N := 3) rfl ?_); refine box_event ?hg (N := 3) ?hd (cs := #[.string (⟨#[]⟩ : ByteArray)]) (t := 90) ?hr ?_; (case hd => rfl); (case hg => rfl); (case hr => first | (go_simp; done) | (go_simp; rfl)); intro gb143 hg w4 hbox hb; have n0_ := Aside0.mk (below_step zb0 hb); have n1_ := Aside0.mk ((by rw [hg]; exact (below_size zb0) : w.heap.size ≤ gb143)); have n2_ := Aside0.mk ((by rw [hg]; exact (below_size zb0) : w.heap.size ≤ gb143)); have n3_ := Aside0.mk ((show IsS90 w w4 gb143 (⟨#[]⟩ : ByteArray) from ⟨hbox, zb40⟩)); clear HB; have HB := n0_; have GW143 := n1_; have GE143 := n2_; have HI143 := n3_; clear n0_ n1_ n2_ n3_; clear hb hbox hg; obtain ⟨HGz5, hgz5⟩ := HI143.out; have hcz5_0 := cellS90_0 HGz5; have hfz5_0 := blk_frozen HGz5 0; clear HGz5 hgz5) | ((with_reducible refine gate_callee (f := 70) rfl ?_); refine goesL_ (some 5) rfl rfl Tryz.func70 zb15 rfl #[.pointer (some ⟨gb143, 0, none⟩)] rfl zb1 ?_; (with_reducible refine (media_Text_Token.calls k gb143 a0 t144 t145 w _ ?side1 ?side2 A2.out).mono ?_); (case side1 => repeat (first | (with_reducible first | exact HI143.out | apply IsS90.alloc | apply IsS90.drewN | apply IsS90.drew | apply IsS90.set_0) | exact HI143.out)); (case side2 => repeat (first | (with_reducible first | exact HB.out | apply below_alloc | apply pw_below_drewN | apply below_drew1 | refine below_set ?_ (IsS90.ge HI143.out)) | exact HB.out)); rintro e w6 ⟨rfl, hi, hb, hk⟩; refine ⟨_, rfl, ?_⟩; have n0_ := Aside0.mk (hb); have n1_ := Aside0.mk (hi); clear HB; clear HI143; have HB := n0_; have HI143 := n1_; clear n0_ n1_; (try clear hb); (try clear hb2); (try clear hk); (try clear hi)))
  go_ret
  exact ⟨zb4, (by repeat (first | (with_reducible first | exact HB.out | apply below_alloc | apply pw_below_drewN | apply below_drew1 | refine below_set ?_ (IsS90.ge HI143.out)) | exact HB.out))⟩
 ·rw [if_neg c3] at H
  have c3b0 : (t144.toList == ([] : List UInt8)) = false := beq_eq_false_iff_ne.mpr c3
  have c3b1 : (t144.toList != ([] : List UInt8)) = true := bne_iff_ne.mpr c3
  obtain rfl := Option.some.inj H
  go_enter Tryz.func98, Tryz.ntmps98
  go_wp2_with (first | ((with_reducible refine gate_dst (N := 3) rfl ?_); refine box_event ?hg (N := 3) ?hd (cs := #[.string (⟨#[]⟩ : ByteArray)]) (t := 90) ?hr ?_; (case hd => rfl); (case hg => rfl); (case hr => first | (go_simp; done) | (go_simp; rfl)); intro gb143 hg w7 hbox hb; have n0_ := Aside0.mk (below_step zb0 hb); have n1_ := Aside0.mk ((by rw [hg]; exact (below_size zb0) : w.heap.size ≤ gb143)); have n2_ := Aside0.mk ((by rw [hg]; exact (below_size zb0) : w.heap.size ≤ gb143)); have n3_ := Aside0.mk ((show IsS90 w w7 gb143 (⟨#[]⟩ : ByteArray) from ⟨hbox, zb40⟩)); clear HB; have HB := n0_; have GW143 := n1_; have GE143 := n2_; have HI143 := n3_; clear n0_ n1_ n2_ n3_; clear hb hbox hg; obtain ⟨HGz8, hgz8⟩ := HI143.out; have hcz8_0 := cellS90_0 HGz8; have hfz8_0 := blk_frozen HGz8 0; clear HGz8 hgz8) | ((with_reducible refine gate_callee (f := 70) rfl ?_); refine goesL_ (some 5) rfl rfl Tryz.func70 zb15 rfl #[.pointer (some ⟨gb143, 0, none⟩)] rfl zb1 ?_; (with_reducible refine (media_Text_Token.calls k gb143 a0 t144 t145 w _ ?side1 ?side2 A2.out).mono ?_); (case side1 => repeat (first | (with_reducible first | exact HI143.out | apply IsS90.alloc | apply IsS90.drewN | apply IsS90.drew | apply IsS90.set_0) | exact HI143.out)); (case side2 => repeat (first | (with_reducible first | exact HB.out | apply below_alloc | apply pw_below_drewN | apply below_drew1 | refine below_set ?_ (IsS90.ge HI143.out)) | exact HB.out)); rintro e w9 ⟨rfl, hi, hb, hk⟩; refine ⟨_, rfl, ?_⟩; have n0_ := Aside0.mk (hb); have n1_ := Aside0.mk (hi); clear HB; clear HI143; have HB := n0_; have HI143 := n1_; clear n0_ n1_; (try clear hb); (try clear hb2); (try clear hk); (try clear hi); obtain ⟨HGz10, hgz10⟩ := HI143.out; have hcz10_0 := cellS90_0 HGz10; have hfz10_0 := blk_frozen HGz10 0; clear HGz10 hgz10))
  go_ret
  exact ⟨zb4, (by repeat (first | (with_reducible first | exact HB.out | apply below_alloc | apply pw_below_drewN | apply below_drew1 | refine below_set ?_ (IsS90.ge HI143.out)) | exact HB.out))⟩
end Go.Proofs.YteonhdfjfjpbjaaGreatDoor.P
/- Px13 -/
namespace Go.Proofs.YteonhdfjfjpbjaaGreatDoor.P
open Go.Proofs.YteonhdfjfjpbjaaGreatDoor.B
open Go.RowKit Go.Proofs.YteonhdfjfjpbjaaGreatDoorW.PrintWords Go.Proofs.YteonhdfjfjpbjaaGreatDoorW.PrintLast Go.Proofs.YteonhdfjfjpbjaaGreatDoorW.PrintMore
attribute [local go_sem] str_leq str_gtr str_geq max2_int min2_int max_two min_two max_three min_three max_four min_four
set_option linter.unusedVariables false
set_option linter.unusedSimpArgs false
open Go.Proofs.YteonhdfjfjpbjaaGreatDoor.O
def field_pair.f (k : Nat) (a0 : ByteArray) : Option (ByteArray × ByteArray × Bool) := (strings_Cut.f a0 (⟨#[58]⟩ : ByteArray)).bind fun bt147 => ((strings_Trim.f bt147.2.1 (⟨#[32, 9]⟩ : ByteArray)).bind fun t150 => ((media_Small.f bt147.1).bind fun t151 => (if bt147.2.2 = true then ((field_token.f k bt147.1).bind fun t152 => (if t152 = true then ((field_value.f t150).bind fun t153 => (some (t151, t150, t153))) else (some (t151, t150, false)))) else (some (t151, t150, false)))))
set_option maxHeartbeats 8000000 in
set_option maxRecDepth 100000 in
theorem field_pair.calls (k : Nat) (a0 : ByteArray) (r1 : ByteArray) (r2 : ByteArray) (r3 : Bool) (w : World) (hG : Glob w) (h : field_pair.f k a0 = some (r1, r2, r3)) :
  Calls Tryz.prog 62 #[.string a0] w fun e w' => e = .returned (.tuple #[.agg #[.string r1, .string r2], .bool r3]) ∧ Below w.heap.size w w' := by
 have hu49 := Tryz.underlying49
 have HB := Aside0.mk (Below.refl w.heap.size w)
 have hGA := Aside0.mk hG
 clear hG
 have H : ((strings_Cut.f a0 (⟨#[58]⟩ : ByteArray)).bind fun bt147 => ((strings_Trim.f bt147.2.1 (⟨#[32, 9]⟩ : ByteArray)).bind fun t150 => ((media_Small.f bt147.1).bind fun t151 => (if bt147.2.2 = true then ((field_token.f k bt147.1).bind fun t152 => (if t152 = true then ((field_value.f t150).bind fun t153 => (some (t151, t150, t153))) else (some (t151, t150, false)))) else (some (t151, t150, false)))))) = some (r1, r2, r3) := h
 clear h
 replace H := Option.bind_eq_some_iff.mp H
 obtain ⟨⟨t147, t148, t149⟩, A20, H⟩ := H
 replace H : ((strings_Trim.f t148 (⟨#[32, 9]⟩ : ByteArray)).bind fun t150 => ((media_Small.f t147).bind fun t151 => (if t149 = true then ((field_token.f k t147).bind fun t152 => (if t152 = true then ((field_value.f t150).bind fun t153 => (some (t151, t150, t153))) else (some (t151, t150, false)))) else (some (t151, t150, false))))) = some (r1, r2, r3) := H
 have A2 := Aside0.mk A20
 clear A20
 replace H := Option.bind_eq_some_iff.mp H
 obtain ⟨t150, A30, H⟩ := H
 replace H : ((media_Small.f t147).bind fun t151 => (if t149 = true then ((field_token.f k t147).bind fun t152 => (if t152 = true then ((field_value.f t150).bind fun t153 => (some (t151, t150, t153))) else (some (t151, t150, false)))) else (some (t151, t150, false)))) = some (r1, r2, r3) := H
 have A3 := Aside0.mk A30
 clear A30
 replace H := Option.bind_eq_some_iff.mp H
 obtain ⟨t151, A40, H⟩ := H
 replace H : (if t149 = true then ((field_token.f k t147).bind fun t152 => (if t152 = true then ((field_value.f t150).bind fun t153 => (some (t151, t150, t153))) else (some (t151, t150, false)))) else (some (t151, t150, false))) = some (r1, r2, r3) := H
 have A4 := Aside0.mk A40
 clear A40
 by_cases c5 : t149 = true
 ·subst c5
  replace H : ((field_token.f k t147).bind fun t152 => (if t152 = true then ((field_value.f t150).bind fun t153 => (some (t151, t150, t153))) else (some (t151, t150, false)))) = some (r1, r2, r3) := by rw [if_pos rfl] at H; exact H
  replace H := Option.bind_eq_some_iff.mp H
  obtain ⟨t152, A60, H⟩ := H
  replace H : (if t152 = true then ((field_value.f t150).bind fun t153 => (some (t151, t150, t153))) else (some (t151, t150, false))) = some (r1, r2, r3) := H
  have A6 := Aside0.mk A60
  clear A60
  by_cases c7 : t152 = true
  ·subst c7
   replace H : ((field_value.f t150).bind fun t153 => (some (t151, t150, t153))) = some (r1, r2, r3) := by rw [if_pos rfl] at H; exact H
   replace H := Option.bind_eq_some_iff.mp H
   obtain ⟨t153, A80, H⟩ := H
   replace H : (some (t151, t150, t153)) = some (r1, r2, r3) := H
   have A8 := Aside0.mk A80
   clear A80
   simp only [Option.some.injEq, Prod.mk.injEq] at H
   obtain ⟨rfl, rfl, rfl⟩ := H
   go_enter Tryz.func62, Tryz.ntmps62
   go_wp2_with (first | ((with_reducible refine gate_dst (N := 2) rfl ?_); refine box_event ?hg (N := 2) ?hd (cs := #[.string (⟨#[]⟩ : ByteArray), .string (⟨#[]⟩ : ByteArray)]) (t := 49) ?hr ?_; (case hd => rfl); (case hg => rfl); (case hr => first | (go_simp; done) | (go_simp; rfl)); intro gb146 hg w9 hbox hb; have n0_ := Aside0.mk (below_step zb0 hb); have n1_ := Aside0.mk (hbox); have n2_ := Aside0.mk ((by rw [hg]; exact (below_size zb0) : w.heap.size ≤ gb146)); have n3_ := Aside0.mk ((by rw [hg]; exact (below_size zb0) : w.heap.size ≤ gb146)); clear HB; have HB := n0_; have BK146 := n1_; have GW146 := n2_; have GE146 := n3_; clear n0_ n1_ n2_ n3_; clear hb hbox hg) | ((with_reducible refine gate_callee (f := 31) rfl ?_); refine goesL_ (some 9) rfl rfl Tryz.func31 zb15 rfl #[.string a0, .string (⟨#[58]⟩ : ByteArray)] rfl zb1 ?_; (with_reducible refine (strings_Cut.calls a0 (⟨#[58]⟩ : ByteArray) t147 t148 true _ ?side1 A2.out).mono ?_); (case side1 => exact Glob.below hGA.out zb7); rintro e w10 ⟨rfl, hb⟩; refine ⟨_, rfl, ?_⟩; have n0_ := Aside0.mk (blk_below (g := gb146) (o := .cells #[.string (⟨#[]⟩ : ByteArray), .string (⟨#[]⟩ : ByteArray)] 49 (0, 0)) zb13 hb); have n1_ := Aside0.mk (below_step zb7 hb); clear BK146; clear HB; have BK146 := n0_; have HB := n1_; clear n0_ n1_; (try clear hb); (try clear hb2); (try clear hk); (try clear hi)) | ((with_reducible refine gate_callee (f := 46) rfl ?_); refine goesL_ (some 14) rfl rfl Tryz.func46 zb15 rfl #[.string t148, .string (⟨#[32, 9]⟩ : ByteArray)] rfl zb1 ?_; (with_reducible refine (strings_Trim.calls t148 (⟨#[32, 9]⟩ : ByteArray) t150 _ A3.out).mono ?_); rintro e w11 ⟨rfl, hb⟩; refine ⟨_, rfl, ?_⟩; have n0_ := Aside0.mk (blk_below (g := gb146) (o := .cells #[.string (⟨#[]⟩ : ByteArray), .string (⟨#[]⟩ : ByteArray)] 49 (0, 0)) zb13 hb); have n1_ := Aside0.mk (below_step zb7 hb); clear BK146; clear HB; have BK146 := n0_; have HB := n1_; clear n0_ n1_; (try clear hb); (try clear hb2); (try clear hk); (try clear hi)) | ((with_reducible refine gate_callee (f := 50) rfl ?_); refine goesL_ (some 16) rfl rfl Tryz.func50 zb15 rfl #[.string t147] rfl zb1 ?_; (with_reducible refine (media_Small.calls t147 t151 _ A4.out).mono ?_); rintro e w12 ⟨rfl, hb⟩; refine ⟨_, rfl, ?_⟩; have n0_ := Aside0.mk (blk_below (g := gb146) (o := .cells #[.string (⟨#[]⟩ : ByteArray), .string (⟨#[]⟩ : ByteArray)] 49 (0, 0)) zb13 hb); have n1_ := Aside0.mk (below_step zb7 hb); clear BK146; clear HB; have BK146 := n0_; have HB := n1_; clear n0_ n1_; (try clear hb); (try clear hb2); (try clear hk); (try clear hi)) | (go_at_call 98; (with_reducible refine (field_token.calls k t147 true _ A6.out).mono ?_); rintro e w13 ⟨rfl, hb⟩; have n0_ := Aside0.mk (blk_below (g := gb146) (o := .cells #[.string (⟨#[]⟩ : ByteArray), .string (⟨#[]⟩ : ByteArray)] 49 (0, 0)) zb13 hb); have n1_ := Aside0.mk (below_step zb7 hb); clear BK146; clear HB; have BK146 := n0_; have HB := n1_; clear n0_ n1_; (try clear hb); (try clear hb2); (try clear hk); (try clear hi)) | (go_at_call 99; (with_reducible refine (field_value.calls t150 t153 _ A8.out).mono ?_); rintro e w14 ⟨rfl, hb⟩; have n0_ := Aside0.mk (blk_below (g := gb146) (o := .cells #[.string (⟨#[]⟩ : ByteArray), .string (⟨#[]⟩ : ByteArray)] 49 (0, 0)) zb13 hb); have n1_ := Aside0.mk (below_step zb7 hb); clear BK146; clear HB; have BK146 := n0_; have HB := n1_; clear n0_ n1_; (try clear hb); (try clear hb2); (try clear hk); (try clear hi); have hcz15_0 : w14.cell? ⟨gb146, 0, none⟩ = some (.string (⟨#[]⟩ : ByteArray)) := (blk_cell BK146.out 0).trans rfl; have hcz15_1 : w14.cell? ⟨gb146, 1, none⟩ = some (.string (⟨#[]⟩ : ByteArray)) := (blk_cell BK146.out 1).trans rfl; have hfz15_0 := blk_frozen BK146.out 0; have hfz15_1 := blk_frozen BK146.out 1))
   refine bodyPost_ret (results_ct rfl _ _ gb146 49 #[.string t151, .string t150] (0, 0) _ rfl zb16 Tryz.underlying49 rfl zb15) rfl ?_
   exact ⟨zb4, zb7⟩
  ·replace c7 := Bool.eq_false_iff.mpr c7
   subst c7
   replace H : (some (t151, t150, false)) = some (r1, r2, r3) := by rw [if_neg (show ¬ (false = true) by decide)] at H; exact H
   simp only [Option.some.injEq, Prod.mk.injEq] at H
   obtain ⟨rfl, rfl, rfl⟩ := H
   go_enter Tryz.func62, Tryz.ntmps62
   go_wp2_with (first | ((with_reducible refine gate_dst (N := 2) rfl ?_); refine box_event ?hg (N := 2) ?hd (cs := #[.string (⟨#[]⟩ : ByteArray), .string (⟨#[]⟩ : ByteArray)]) (t := 49) ?hr ?_; (case hd => rfl); (case hg => rfl); (case hr => first | (go_simp; done) | (go_simp; rfl)); intro gb146 hg w16 hbox hb; have n0_ := Aside0.mk (below_step zb0 hb); have n1_ := Aside0.mk (hbox); have n2_ := Aside0.mk ((by rw [hg]; exact (below_size zb0) : w.heap.size ≤ gb146)); have n3_ := Aside0.mk ((by rw [hg]; exact (below_size zb0) : w.heap.size ≤ gb146)); clear HB; have HB := n0_; have BK146 := n1_; have GW146 := n2_; have GE146 := n3_; clear n0_ n1_ n2_ n3_; clear hb hbox hg) | ((with_reducible refine gate_callee (f := 31) rfl ?_); refine goesL_ (some 9) rfl rfl Tryz.func31 zb15 rfl #[.string a0, .string (⟨#[58]⟩ : ByteArray)] rfl zb1 ?_; (with_reducible refine (strings_Cut.calls a0 (⟨#[58]⟩ : ByteArray) t147 t148 true _ ?side1 A2.out).mono ?_); (case side1 => exact Glob.below hGA.out zb7); rintro e w17 ⟨rfl, hb⟩; refine ⟨_, rfl, ?_⟩; have n0_ := Aside0.mk (blk_below (g := gb146) (o := .cells #[.string (⟨#[]⟩ : ByteArray), .string (⟨#[]⟩ : ByteArray)] 49 (0, 0)) zb13 hb); have n1_ := Aside0.mk (below_step zb7 hb); clear BK146; clear HB; have BK146 := n0_; have HB := n1_; clear n0_ n1_; (try clear hb); (try clear hb2); (try clear hk); (try clear hi)) | ((with_reducible refine gate_callee (f := 46) rfl ?_); refine goesL_ (some 14) rfl rfl Tryz.func46 zb15 rfl #[.string t148, .string (⟨#[32, 9]⟩ : ByteArray)] rfl zb1 ?_; (with_reducible refine (strings_Trim.calls t148 (⟨#[32, 9]⟩ : ByteArray) t150 _ A3.out).mono ?_); rintro e w18 ⟨rfl, hb⟩; refine ⟨_, rfl, ?_⟩; have n0_ := Aside0.mk (blk_below (g := gb146) (o := .cells #[.string (⟨#[]⟩ : ByteArray), .string (⟨#[]⟩ : ByteArray)] 49 (0, 0)) zb13 hb); have n1_ := Aside0.mk (below_step zb7 hb); clear BK146; clear HB; have BK146 := n0_; have HB := n1_; clear n0_ n1_; (try clear hb); (try clear hb2); (try clear hk); (try clear hi)) | ((with_reducible refine gate_callee (f := 50) rfl ?_); refine goesL_ (some 16) rfl rfl Tryz.func50 zb15 rfl #[.string t147] rfl zb1 ?_; (with_reducible refine (media_Small.calls t147 t151 _ A4.out).mono ?_); rintro e w19 ⟨rfl, hb⟩; refine ⟨_, rfl, ?_⟩; have n0_ := Aside0.mk (blk_below (g := gb146) (o := .cells #[.string (⟨#[]⟩ : ByteArray), .string (⟨#[]⟩ : ByteArray)] 49 (0, 0)) zb13 hb); have n1_ := Aside0.mk (below_step zb7 hb); clear BK146; clear HB; have BK146 := n0_; have HB := n1_; clear n0_ n1_; (try clear hb); (try clear hb2); (try clear hk); (try clear hi)) | (go_at_call 98; (with_reducible refine (field_token.calls k t147 false _ A6.out).mono ?_); rintro e w20 ⟨rfl, hb⟩; have n0_ := Aside0.mk (blk_below (g := gb146) (o := .cells #[.string (⟨#[]⟩ : ByteArray), .string (⟨#[]⟩ : ByteArray)] 49 (0, 0)) zb13 hb); have n1_ := Aside0.mk (below_step zb7 hb); clear BK146; clear HB; have BK146 := n0_; have HB := n1_; clear n0_ n1_; (try clear hb); (try clear hb2); (try clear hk); (try clear hi); have hcz21_0 : w20.cell? ⟨gb146, 0, none⟩ = some (.string (⟨#[]⟩ : ByteArray)) := (blk_cell BK146.out 0).trans rfl; have hcz21_1 : w20.cell? ⟨gb146, 1, none⟩ = some (.string (⟨#[]⟩ : ByteArray)) := (blk_cell BK146.out 1).trans rfl; have hfz21_0 := blk_frozen BK146.out 0; have hfz21_1 := blk_frozen BK146.out 1))
   refine bodyPost_ret (results_ct rfl _ _ gb146 49 #[.string t151, .string t150] (0, 0) _ rfl zb16 Tryz.underlying49 rfl zb15) rfl ?_
   exact ⟨zb4, zb7⟩
 ·replace c5 := Bool.eq_false_iff.mpr c5
  subst c5
  replace H : (some (t151, t150, false)) = some (r1, r2, r3) := by rw [if_neg (show ¬ (false = true) by decide)] at H; exact H
  simp only [Option.some.injEq, Prod.mk.injEq] at H
  obtain ⟨rfl, rfl, rfl⟩ := H
  go_enter Tryz.func62, Tryz.ntmps62
  go_wp2_with (first | ((with_reducible refine gate_dst (N := 2) rfl ?_); refine box_event ?hg (N := 2) ?hd (cs := #[.string (⟨#[]⟩ : ByteArray), .string (⟨#[]⟩ : ByteArray)]) (t := 49) ?hr ?_; (case hd => rfl); (case hg => rfl); (case hr => first | (go_simp; done) | (go_simp; rfl)); intro gb146 hg w22 hbox hb; have n0_ := Aside0.mk (below_step zb0 hb); have n1_ := Aside0.mk (hbox); have n2_ := Aside0.mk ((by rw [hg]; exact (below_size zb0) : w.heap.size ≤ gb146)); have n3_ := Aside0.mk ((by rw [hg]; exact (below_size zb0) : w.heap.size ≤ gb146)); clear HB; have HB := n0_; have BK146 := n1_; have GW146 := n2_; have GE146 := n3_; clear n0_ n1_ n2_ n3_; clear hb hbox hg) | ((with_reducible refine gate_callee (f := 31) rfl ?_); refine goesL_ (some 9) rfl rfl Tryz.func31 zb15 rfl #[.string a0, .string (⟨#[58]⟩ : ByteArray)] rfl zb1 ?_; (with_reducible refine (strings_Cut.calls a0 (⟨#[58]⟩ : ByteArray) t147 t148 false _ ?side1 A2.out).mono ?_); (case side1 => exact Glob.below hGA.out zb7); rintro e w23 ⟨rfl, hb⟩; refine ⟨_, rfl, ?_⟩; have n0_ := Aside0.mk (blk_below (g := gb146) (o := .cells #[.string (⟨#[]⟩ : ByteArray), .string (⟨#[]⟩ : ByteArray)] 49 (0, 0)) zb13 hb); have n1_ := Aside0.mk (below_step zb7 hb); clear BK146; clear HB; have BK146 := n0_; have HB := n1_; clear n0_ n1_; (try clear hb); (try clear hb2); (try clear hk); (try clear hi)) | ((with_reducible refine gate_callee (f := 46) rfl ?_); refine goesL_ (some 14) rfl rfl Tryz.func46 zb15 rfl #[.string t148, .string (⟨#[32, 9]⟩ : ByteArray)] rfl zb1 ?_; (with_reducible refine (strings_Trim.calls t148 (⟨#[32, 9]⟩ : ByteArray) t150 _ A3.out).mono ?_); rintro e w24 ⟨rfl, hb⟩; refine ⟨_, rfl, ?_⟩; have n0_ := Aside0.mk (blk_below (g := gb146) (o := .cells #[.string (⟨#[]⟩ : ByteArray), .string (⟨#[]⟩ : ByteArray)] 49 (0, 0)) zb13 hb); have n1_ := Aside0.mk (below_step zb7 hb); clear BK146; clear HB; have BK146 := n0_; have HB := n1_; clear n0_ n1_; (try clear hb); (try clear hb2); (try clear hk); (try clear hi)) | ((with_reducible refine gate_callee (f := 50) rfl ?_); refine goesL_ (some 16) rfl rfl Tryz.func50 zb15 rfl #[.string t147] rfl zb1 ?_; (with_reducible refine (media_Small.calls t147 t151 _ A4.out).mono ?_); rintro e w25 ⟨rfl, hb⟩; refine ⟨_, rfl, ?_⟩; have n0_ := Aside0.mk (blk_below (g := gb146) (o := .cells #[.string (⟨#[]⟩ : ByteArray), .string (⟨#[]⟩ : ByteArray)] 49 (0, 0)) zb13 hb); have n1_ := Aside0.mk (below_step zb7 hb); clear BK146; clear HB; have BK146 := n0_; have HB := n1_; clear n0_ n1_; (try clear hb); (try clear hb2); (try clear hk); (try clear hi); have hcz26_0 : w25.cell? ⟨gb146, 0, none⟩ = some (.string (⟨#[]⟩ : ByteArray)) := (blk_cell BK146.out 0).trans rfl; have hcz26_1 : w25.cell? ⟨gb146, 1, none⟩ = some (.string (⟨#[]⟩ : ByteArray)) := (blk_cell BK146.out 1).trans rfl; have hfz26_0 := blk_frozen BK146.out 0; have hfz26_1 := blk_frozen BK146.out 1))
  refine bodyPost_ret (results_ct rfl _ _ gb146 49 #[.string t151, .string t150] (0, 0) _ rfl zb16 Tryz.underlying49 rfl zb15) rfl ?_
  exact ⟨zb4, zb7⟩
end Go.Proofs.YteonhdfjfjpbjaaGreatDoor.P
/- SpA -/
namespace Go.Proofs.YteonhdfjfjpbjaaGreatDoor.Sp
open Go
set_option linter.unusedVariables false
set_option linter.unusedSimpArgs false
abbrev L := List UInt8
def ctl (c : UInt8) : Bool := decide (c.toNat < 32) && !(c == 9) || c == 127
def bl (c : UInt8) : Bool := c == 32 || c == 9
def signs : L := [48, 49, 50, 51, 52, 53, 54, 55, 56, 57, 65, 66, 67, 68, 69, 70, 71, 72, 73, 74, 75, 76, 77, 78, 79, 80, 81, 82, 83, 84, 85, 86, 87, 88, 89, 90, 97, 98, 99, 100, 101, 102, 103, 104, 105, 106, 107, 108, 109, 110, 111, 112, 113, 114, 115, 116, 117, 118, 119, 120, 121, 122, 33, 35, 36, 37, 38, 39, 42, 43, 45, 46, 94, 95, 96, 124, 126]
def tokB (c : UInt8) : Bool := signs.contains c
def lowB (c : UInt8) : UInt8 := if 65 ≤ c.toNat ∧ c.toNat ≤ 90 then UInt8.ofNat (c.toNat + 32) else c
def low (s : L) : L := s.map lowB
def hexV (c : UInt8) : Option Nat := if 48 ≤ c.toNat ∧ c.toNat ≤ 57 then some (c.toNat - 48) else if 65 ≤ c.toNat ∧ c.toNat ≤ 70 then some (c.toNat - 55) else if 97 ≤ c.toNat ∧ c.toNat ≤ 102 then some (c.toNat - 87) else none
def hexB (c : UInt8) : Bool := (hexV c).isSome
def tok (s : L) : L × L := (s.takeWhile tokB, s.dropWhile tokB)
def skip (s : L) : L := s.dropWhile bl
def quoted : L → Option (L × L)
  | [] => none
  | c :: r => if c = 34 then some ([], r) else if c = 92 then (match r with
      | [] => none
      | d :: r' => if ctl d = true then none else (quoted r').map fun p => (d :: p.1, p.2))
    else if ctl c = true then none else (quoted r).map fun p => (c :: p.1, p.2)
def value (s : L) : Option (L × L) := if s.head? = some 34 then quoted s.tail else if (tok s).1 = [] then none else some (tok s)
def params : Nat → L → Option (List (L × L))
  | 0, _ => none
  | f + 1, s => if skip s = [] then some [] else if (skip s).head? ≠ some 59 then none else
      if (tok (skip (skip s).tail)).1 = [] then none else if (tok (skip (skip s).tail)).2.head? ≠ some 61 then none else
      match value (tok (skip (skip s).tail)).2.tail with
      | none => none
      | some (v, rest) => (params f rest).map ((low (tok (skip (skip s).tail)).1, v) :: ·)
def pars (s : L) : Option (List (L × L)) := params (s.length + 1) s
def line : L → Option (L × L)
  | [] => none
  | c :: r => if c = 13 ∧ r.head? = some 10 then some ([], r.tail) else (line r).map fun p => (c :: p.1, p.2)
def trim (s : L) : L := (skip (skip s).reverse).reverse
def fval (s : L) : Bool := s.all (fun c => !ctl c) && decide (trim s = s)
def pairOf (l : L) : Option (L × L) := if (tok l).1 = [] then none else if (tok l).2.head? ≠ some 58 then none else if fval (trim (tok l).2.tail) = true then some (low (tok l).1, trim (tok l).2.tail) else none
/-- The fields, what stands behind them, the error (0: none); N: how long all of it is. -/
def fparse (N : Nat) : Nat → L → List (L × L) → List (L × L) × L × Int
  | 0, _, _ => ([], [], 180)
  | f + 1, s, acc => match line s with
    | none => ([], [], if N > 8000 then 2 else 180)
    | some (l, more) => if N - more.length > 8000 then ([], [], if N > 8000 then 2 else 180) else if l = [] then (acc, more, 0) else match pairOf l with
      | none => ([], [], 180)
      | some p => fparse N f more (acc ++ [p])
def fields (s : L) : List (L × L) × L × Int := fparse s.length (s.length + 1) s []
def hexN (d : L) : Nat := d.foldl (fun n c => n * 16 + (hexV c).getD 0) 0
def csize (l : L) : Option Nat := if l.takeWhile hexB = [] ∨ 8 < (l.takeWhile hexB).length ∨ pars (l.dropWhile hexB) = none then none else some (hexN (l.takeWhile hexB))
/-- The body, what stands behind it, the error. -/
def decode : Nat → L → L → L × L × Int
  | 0, _, _ => ([], [], 190)
  | f + 1, s, acc => match line s with
    | none => ([], [], 190)
    | some (l, more) => match csize l with
      | none => ([], [], 190)
      | some n => if n = 0 then (if (fields more).2.2 = 0 then (acc, (fields more).2.1, 0) else ([], [], 190))
        else if n + acc.length > 100000 then ([], [], 2)
        else if more.length < n then ([], [], 190)
        else if (more.drop n).take 2 ≠ [13, 10] then ([], [], 190)
        else decode f (more.drop (n + 2)) (acc ++ more.take n)
def dec (s : L) : L × L × Int := decode (s.length + 1) s []
def hexC (n : Nat) : UInt8 := if n < 10 then UInt8.ofNat (48 + n) else UInt8.ofNat (87 + n)
def hexD (n : Nat) : L := if h : n < 16 then [hexC n] else hexD (n / 16) ++ [hexC (n % 16)]
termination_by n
decreasing_by omega
def encode : Nat → L → Nat → L
  | 0, _, _ => []
  | f + 1, s, n => if s = [] then [48, 13, 10, 13, 10] else hexD (min n s.length) ++ [13, 10] ++ s.take n ++ [13, 10] ++ encode f (s.drop n) n
def enc (s : L) (n : Nat) : L := encode (s.length + 1) s n
theorem line_len : ∀ (s : L) (p : L × L), line s = some p → s = p.1 ++ 13 :: 10 :: p.2
  | [], _, h => by simp [line] at h
  | c :: r, p, h => by
    unfold line at h
    split at h
    · rename_i hc
      obtain ⟨rfl, h2⟩ := hc
      obtain rfl := Option.some.inj h
      cases r with
      | nil => simp at h2
      | cons d r => simp at h2; subst h2; rfl
    · cases e : line r with
      | none => rw [e] at h; simp at h
      | some q =>
        rw [e] at h
        simp at h
        subst h
        have := line_len r q e
        simp [this]
theorem line_app : ∀ (a b : L), (∀ x y, ¬ (a = x ++ 13 :: 10 :: y)) → (a.getLast? ≠ some 13) → line (a ++ 13 :: 10 :: b) = some (a, b)
  | [], b, _, _ => by simp [line]
  | c :: r, b, h, hl => by
    have hr : ∀ x y, ¬ (r = x ++ 13 :: 10 :: y) := fun x y e => h (c :: x) y (by simp [e])
    rw [List.cons_append, line, if_neg]
    · rw [line_app r b hr (by
        cases r with
        | nil => simp
        | cons d r => rw [List.getLast?_cons_cons] at hl; exact hl)]
      rfl
    · rintro ⟨rfl, h2⟩
      cases r with
      | nil => simp at hl
      | cons d r =>
        simp at h2
        subst h2
        exact h [] r rfl
end Go.Proofs.YteonhdfjfjpbjaaGreatDoor.Sp
/- By -/
namespace Go.Proofs.YteonhdfjfjpbjaaGreatDoor.Sp
open Go Go.RowKit Go.Proofs.YteonhdfjfjpbjaaGreatDoorW.PrintWords Go.Proofs.YteonhdfjfjpbjaaGreatDoorW.PrintLast Go.Proofs.YteonhdfjfjpbjaaGreatDoor.O
set_option linter.unusedVariables false
set_option linter.unusedSimpArgs false
def mk (l : L) : ByteArray := ⟨l.toArray⟩
theorem mk_data (l : L) : (mk l).data.toList = l := by simp [mk]
theorem mk_self (s : ByteArray) : mk s.data.toList = s := by cases s; simp [mk]
theorem ba_ext {a b : ByteArray} (h : a.data.toList = b.data.toList) : a = b := by rw [← mk_self a, ← mk_self b, h]
theorem mk_size (l : L) : (mk l).size = l.length := by rw [Lib.size_eq, mk_data]
theorem mk_append (a b : L) : mk a ++ mk b = mk (a ++ b) := ba_ext (by simp [mk_data])
theorem ext_sub (s : ByteArray) (a b : Nat) : s.extract a b = mk ((s.data.toList.drop a).take (b - a)) := ba_ext (by rw [Lib.extract_data, mk_data])
theorem ext_mk (l : L) (a b : Nat) : (mk l).extract a b = mk ((l.drop a).take (b - a)) := by rw [ext_sub, mk_data]
theorem ext_to (l : L) (a : Nat) : (mk l).extract 0 a = mk (l.take a) := by rw [ext_mk]; rfl
theorem ext_from (l : L) (a : Nat) : (mk l).extract a (mk l).size = mk (l.drop a) := by rw [ext_mk, mk_size, List.take_of_length_le (by rw [List.length_drop]; omega)]
theorem tl (s : ByteArray) : s.toList = s.data.toList := Lib.toList_data s
theorem tl_mk (l : L) : (mk l).toList = l := by rw [tl, mk_data]
theorem wrap_id {x : Int} (h1 : -9223372036854775808 ≤ x) (h2 : x ≤ 9223372036854775807) : wrap64 x = x := by unfold wrap64; omega
/-- The byte at a place, the rest of the text beside it. -/
theorem drop_bt (s : ByteArray) (i : Nat) (h : i < s.size) : ∃ b : UInt8, s.data.toList.drop i = b :: s.data.toList.drop (i + 1) ∧ bt s i = b.toNat := by
  have h' : i < s.data.toList.length := by rw [← Lib.size_eq]; exact h
  refine ⟨s.data.toList[i], List.drop_eq_getElem_cons h', ?_⟩
  rw [← bt_getD s i h, List.getD_eq_getElem?_getD, List.getElem?_eq_getElem h']
  rfl
theorem mk_bt (l : L) (i : Nat) (h : i < l.length) : ∃ b : UInt8, l.drop i = b :: l.drop (i + 1) ∧ bt (mk l) i = b.toNat := by
  have := drop_bt (mk l) i (by rw [mk_size]; exact h)
  rwa [mk_data] at this
theorem bt_head (c : UInt8) (r : L) : bt (mk (c :: r)) 0 = c.toNat := by
  obtain ⟨b, e1, e2⟩ := mk_bt (c :: r) 0 zb25
  simp at e1
  rw [← e1] at e2
  exact e2
theorem u8_eq (c : UInt8) (n : Nat) (h : n < 256) : c.toNat = n ↔ c = UInt8.ofNat n := by
  constructor
  · intro e
    apply UInt8.toNat_inj.1
    rw [e, UInt8.toNat_ofNat']
    omega
  · intro e
    rw [e, UInt8.toNat_ofNat']
    omega
theorem u8i (c : UInt8) (n : Nat) (h : n < 256) : ((c.toNat : Int) = (n : Int)) ↔ c = UInt8.ofNat n := by
  rw [← u8_eq c n h]
  omega
theorem wf_u8 {x : Int} (h : (Lit.int .u8 x).wf = true) : 0 ≤ x ∧ x < 256 := by
  have h' : IntKind.u8.min ≤ x ∧ x ≤ IntKind.u8.max := by simpa [Lit.wf] using h
  rw [show IntKind.u8.min = 0 from by decide, show IntKind.u8.max = 255 from by decide] at h'
  omega
def pairsB (l : List (L × L)) : List P.S49 := l.map fun p => ⟨mk p.1, mk p.2⟩
theorem pairsB_app (a b : List (L × L)) : pairsB (a ++ b) = pairsB a ++ pairsB b := by simp [pairsB]
theorem pairsB_len (a : List (L × L)) : (pairsB a).length = a.length := by simp [pairsB]
end Go.Proofs.YteonhdfjfjpbjaaGreatDoor.Sp
/- Orng -/
namespace Go.Proofs.YteonhdfjfjpbjaaGreatDoor.O
open Go.RowKit Go.Shelf
attribute [local go_sem] Oper.semAt_some
set_option linter.unusedVariables false
set_option linter.unusedSimpArgs false
def lineB (s : ByteArray) : Option (ByteArray × ByteArray) := (Sp.line s.data.toList).map fun p => (⟨p.1.toArray⟩, ⟨p.2.toArray⟩)
theorem index2 (c : UInt8) (r : List UInt8) : Lib.index (c :: r) [13, 10] = if c = 13 ∧ r.head? = some 10 then 0 else if Lib.index r [13, 10] == -1 then -1 else Lib.index r [13, 10] + 1 := by
  cases r with
  | nil => by_cases h : c = 13 <;> simp [Lib.index, List.isPrefixOf, h]
  | cons d r =>
    by_cases h : c = 13 ∧ d = 10
    · obtain ⟨rfl, rfl⟩ := h
      simp [Lib.index, List.isPrefixOf]
    · have h' : ((13 == c) && ((10 == d) && true)) = false := by
        rw [Bool.eq_false_iff]
        intro e
        simp only [Bool.and_eq_true, beq_iff_eq, and_true] at e
        exact h ⟨e.1.symm, e.2.symm⟩
      have h2 : ¬ (c = 13 ∧ (d :: r).head? = some 10) := by simpa using fun e1 e2 => h ⟨e1, e2⟩
      rw [if_neg h2, Lib.index]
      have h3 : ([13, 10] : List UInt8).isPrefixOf (c :: d :: r) = false := by
        simp only [List.isPrefixOf]
        exact h'
      rw [h3, if_neg zb20]
theorem index_line : ∀ s : List UInt8, (Sp.line s = none ∧ Lib.index s [13, 10] = -1) ∨ (∃ p : List UInt8 × List UInt8, Sp.line s = some p ∧ Lib.index s [13, 10] = p.1.length)
  | [] => .inl ⟨rfl, by simp [Lib.index]⟩
  | c :: r => by
    rw [index2, Sp.line]
    by_cases h : c = 13 ∧ r.head? = some 10
    · rw [if_pos h, if_pos h]
      exact .inr ⟨_, rfl, rfl⟩
    · rw [if_neg h, if_neg h]
      rcases index_line r with ⟨e1, e2⟩ | ⟨p, e1, e2⟩
      · rw [e1, e2]
        exact .inl ⟨rfl, rfl⟩
      · rw [e1, e2]
        have hb : ((p.1.length : Int) == -1) = false := by simp
        rw [hb, if_neg zb20]
        exact .inr ⟨_, rfl, by simp⟩
theorem cut_none (s : ByteArray) (h : lineB s = none) : Lib.cut s.data.toList [13, 10] = (s.data.toList, [], false) := by
  rcases index_line s.data.toList with ⟨e1, e2⟩ | ⟨p, e1, e2⟩
  · unfold Lib.cut
    rw [e2, if_neg zb17]
  · unfold lineB at h
    rw [e1] at h
    simp at h
theorem cut_some (s x y : ByteArray) (h : lineB s = some (x, y)) : Lib.cut s.data.toList [13, 10] = (x.data.toList, y.data.toList, true) := by
  rcases index_line s.data.toList with ⟨e1, e2⟩ | ⟨p, e1, e2⟩
  · unfold lineB at h
    rw [e1] at h
    simp at h
  · unfold lineB at h
    rw [e1] at h
    simp only [Option.map_some, Option.some.injEq, Prod.mk.injEq] at h
    obtain ⟨rfl, rfl⟩ := h
    have hs := Sp.line_len _ _ e1
    unfold Lib.cut
    rw [e2, if_pos zb17]
    have e3 : (p.1 ++ 13 :: 10 :: p.2).drop (p.1.length + 2) = p.2 := by
      rw [← List.drop_drop, List.drop_left' rfl]
      rfl
    have e4 : (p.1 ++ 13 :: 10 :: p.2).take p.1.length = p.1 := List.take_left' rfl
    rw [hs]
    simp only [Int.toNat_natCast, List.length_cons, List.length_nil, e4]
    rw [show p.1.length + (0 + 1 + 1) = p.1.length + 2 by omega, e3]
theorem lineB_size (s x y : ByteArray) (h : lineB s = some (x, y)) : s.size = x.size + y.size + 2 := by
  unfold lineB at h
  cases e : Sp.line s.data.toList with
  | none => rw [e] at h; simp at h
  | some p =>
    rw [e] at h
    simp only [Option.map_some, Option.some.injEq, Prod.mk.injEq] at h
    obtain ⟨rfl, rfl⟩ := h
    have hs := congrArg List.length (Sp.line_len _ _ e)
    simp only [List.length_append, List.length_cons] at hs
    rw [Lib.size_eq, Lib.size_eq, Lib.size_eq]
    show s.data.toList.length = p.1.length + p.2.length + 2
    omega
/-- What abides a store into block B, and an answer of the tape. -/
structure Stays (B : Nat) (J : World → Prop) : Prop where
  set : ∀ W v, J W → J (W.setCell ⟨B, 0, none⟩ v)
  drew : ∀ W k, J W → J (W.drewN k)
/-- A function value that hands its caller's rounds the lines of s0, one by one; B: its box. -/
def LinesOf (F : Fence) (n : Nat) (gf : Nat) (lb : Array Value) (B : Nat) (s0 : ByteArray) (w : World) : Prop :=
  ∀ (l : Nat) (J : ByteArray → World → Prop) (Jx : World → Prop) (W : World), Below w.heap.size w W → (∀ c, Stays B (J c)) → (∀ c W, J c W → Glob W) →
    (∀ cur x y W1, J cur W1 → lineB cur = some (x, y) → YieldAt F (n - 1) Tryz.prog l #[.string x, .string y] W1 fun e W' =>
      (e = .returned (.bool true) ∧ J y W' ∧ W'.heap[B]? = W1.heap[B]?) ∨ (e = .returned (.bool false) ∧ Jx W')) →
    J s0 W →
    CallsIn F n Tryz.prog gf (#[.func (.yield l) #[] #[]] ++ lb) W fun e W' => (∃ v, e = .returned v) ∧ ((∃ cur, lineB cur = none ∧ J cur W') ∨ Jx W')
/-- How a round's body may be left. -/
def roundEnd (N B : Nat) (I : ByteArray → World → Prop) (Ix : Code → World → Prop) (y : ByteArray) (W : World) : Exit → Act → World → Prop
  | .normal, _, W' => KeepsFrom N W W' ∧ W'.heap[B]? = W.heap[B]? ∧ I y W'
  | .ret, _, W' => KeepsFrom N W W' ∧ Ix .ret W'
  | .exit id, _, W' => KeepsFrom N W W' ∧ Ix (.exit id) W'
  | .goto t, _, W' => KeepsFrom N W W' ∧ Ix (.goto t) W'
  | .panic _, _, _ => False
  | .outgrown, _, _ => False
variable {F : Fence} {n : Nat}
theorem range_lines {g : Operand} {ps : Array Tmp} {assign body : Code} {Q : Exit → Act → World → Prop} {a : Act} {w : World}
    (hro : F.round = none) (h1 : 1 ≤ n) {gf : Nat} {lb : Array Value} (hg : a.eval g = .func (.func gf) #[] lb) (hFg : F.fn gf) (eg : ∀ args w, (callFunc gf args).run Tryz.prog w = .ok (.enter gf args) w)
    {B : Nat} {s0 : ByteArray} (hit : LinesOf F (n - 1) gf lb B s0 w) (hB : B < w.heap.size) (hps : ps.size = 2)
    (I : ByteArray → World → Prop) (Ix : Code → World → Prop) (hI : OwnFrom w.heap.size I) (hIx : OwnFrom w.heap.size Ix) (hIs : ∀ c, Stays B (I c)) (hIG : ∀ c W, I c W → Glob W) (h0 : I s0 w) (a₁ : ByteArray → ByteArray → Act)
    (hassign : ∀ (l : Nat) (x y : ByteArray) (W : World) (K : Act → World → Prop), K (a₁ x y) W →
      assign.wpIn (F.inRound l) (n - 1 - 1) Tryz.prog (Exit.then K (fun _ _ _ => False)) { tmps := (ps.zip #[Value.string x, Value.string y]).foldl (fun t (p, v) => t.setIfInBounds p v) a.tmps, defers := [] } W)
    (hbody : ∀ (l : Nat) (cur x y : ByteArray) (W : World), I cur W → lineB cur = some (x, y) → body.wpIn (F.inRound l) (n - 1 - 1) Tryz.prog (roundEnd w.heap.size B I Ix y W) (a₁ x y) W)
    (hdone : ∀ (D : Nat) (cur : ByteArray) (W : World), w.heap.size ≤ D → lineB cur = none → I cur W → W.heap[D]? = some (.deferred (some [])) → Q .normal { a with defers := { target := .collected D, args := #[] } :: a.defers } W)
    (hstop : ∀ (D : Nat) (c : Code) (W : World), w.heap.size ≤ D → Ix c W → W.heap[D]? = some (.deferred (some [])) → c.wpIn F n Tryz.prog Q { a with defers := { target := .collected D, args := #[] } :: a.defers } W) :
    (Code.rangeFunc g ps assign body).wpIn F n Tryz.prog Q a w := by
  refine wpIn_rangeFunc (fun fn hfn => ?_)
  rw [hro]
  obtain ⟨R, hR⟩ : ∃ R : LoopState → Option Code → Loop, R = fun st pe => { state := st, pending := pe, fn, tmps := a.tmps, params := ps, assign, body, defers := w.heap.size } := ⟨_, rfl⟩
  obtain ⟨V, hV⟩ : ∃ V, V = (w.alloc (.deferred (some []))).alloc (.loop (R .ready none)) := ⟨_, rfl⟩
  have hN : w.heap.size + 1 = (w.alloc (.deferred (some []))).heap.size := (World.size_alloc _ _).symm
  have hL : V.heap[w.heap.size + 1]? = some (.loop (R .ready none)) := by rw [hV, hN]; exact World.alloc_heap_new _ _
  have hD : V.heap[w.heap.size]? = some (.deferred (some [])) := by rw [hV]; exact (Below.heap_alloc _ _ _ zb25).trans (World.alloc_heap_new w _)
  have hbel : Below w.heap.size w V := by rw [hV]; exact ((Below.refl _ w).alloc (Nat.le_refl _) _).alloc zb25 _
  have hI0 : I s0 V := by rw [hV]; exact hI.alloc _ (hI.alloc _ h0)
  refine ⟨w.heap.size + 1, [{ target := .collected w.heap.size, args := #[] }], V, { target := .fn (.func gf) lb, args := #[.func (.yield (w.heap.size + 1)) #[] #[]] }, V, gf, #[.func (.yield (w.heap.size + 1)) #[] #[]] ++ lb, V, ?_, ?_, ?_, ?_, fun _ => h1, ?_⟩
  · rw [hV, hR]; exact run_enterLoop_outer _ _ _ _ _
  · simp only [resolve, hg]
    simp [go_sem]
  · intro f' hf'
    simp [Target.leads] at hf'
    subst hf'
    exact hFg
  · simp [invoke, go_sem, eg]
  refine (hit (w.heap.size + 1) (fun c W => I c W ∧ W.heap[w.heap.size + 1]? = some (.loop (R .ready none)) ∧ W.heap[w.heap.size]? = some (.deferred (some [])))
    (fun W => ∃ c, Ix c W ∧ W.heap[w.heap.size + 1]? = some (.loop (R .done (some c))) ∧ W.heap[w.heap.size]? = some (.deferred (some []))) V hbel
    (fun c => ⟨fun W v h => ⟨(hIs c).set W v h.1, (KeepsOthers.setCell W _ v).same _ _ h.2.1 rfl, (KeepsOthers.setCell W _ v).same _ _ h.2.2 rfl⟩, fun W k h => ⟨(hIs c).drew W k h.1, h.2⟩⟩)
    (fun c W h => hIG c W h.1) ?_ ⟨hI0, hL, hD⟩).mono ?_
  · rintro cur x y W ⟨hi, hl, hk⟩ hline
    have hlt : w.heap.size + 1 < W.heap.size := (Array.getElem?_eq_some_iff.1 hl).1
    have hy := run_yield (P := Tryz.prog) (args := #[.string x, .string y]) hl (by rw [hR]; exact hps.symm)
    rw [hR] at hy
    refine ⟨fn, _, assign, body, hy, roundIn_of_wpIn hfn (hassign _ x y W _ ⟨_, run_beginRound hl (by rw [hR]), ?_⟩)⟩
    have hl2 : (W.putObj (w.heap.size + 1) (.loop { R .ready none with state := .busy })).heap[w.heap.size + 1]? = some (.loop { R .ready none with state := .busy }) := World.putObj_heap_same hlt
    have hk2 : (W.putObj (w.heap.size + 1) (.loop { R .ready none with state := .busy })).heap[w.heap.size]? = some (.deferred (some [])) := (World.putObj_heap_other zb17).trans hk
    have hB2 : (W.putObj (w.heap.size + 1) (.loop { R .ready none with state := .busy })).heap[B]? = W.heap[B]? := World.putObj_heap_other zb17
    refine wpIn_mono (hbody _ cur x y _ (hI.putObj _ hi zb17 hl rfl) hline) ?_
    generalize W.putObj (w.heap.size + 1) (.loop { R .ready none with state := .busy }) = W2 at *
    have fin : ∀ (jump : Option Code) (W3 : World), KeepsFrom w.heap.size W2 W3 →
        (Instr.endRound (w.heap.size + 1) jump).run Tryz.prog W3 = .ok (.bool jump.isNone) (W3.putObj (w.heap.size + 1) (.loop (R (if jump.isNone then .ready else .done) jump))) ∧
        W3.heap[w.heap.size + 1]? = some (.loop { R .ready none with state := .busy }) ∧
        (W3.putObj (w.heap.size + 1) (.loop (R (if jump.isNone then .ready else .done) jump))).heap[w.heap.size + 1]? = some (.loop (R (if jump.isNone then .ready else .done) jump)) ∧
        (W3.putObj (w.heap.size + 1) (.loop (R (if jump.isNone then .ready else .done) jump))).heap[w.heap.size]? = some (.deferred (some [])) := fun jump W3 hk3 => by
      have hl3 := hk3.same _ _ zb17 hl2 rfl
      have he := run_endRound (P := Tryz.prog) jump hl3
      refine ⟨?_, hl3, World.putObj_heap_same (Array.getElem?_eq_some_iff.1 hl3).1, (World.putObj_heap_other zb17).trans (hk3.same _ _ (Nat.le_refl _) hk2 rfl)⟩
      rw [he, hR]
    intro e a3 W3 hp
    cases e with
    | normal =>
      obtain ⟨hk3, hb3, hi3⟩ := hp
      obtain ⟨hr, hl3, hl4, hk4⟩ := fin none W3 hk3
      exact ⟨_, _, hr, .inl ⟨rfl, ⟨hI.putObj _ hi3 zb17 hl3 rfl, hl4, hk4⟩, (World.putObj_heap_other zb17).trans (hb3.trans hB2)⟩⟩
    | ret =>
      obtain ⟨hk3, hi3⟩ := hp
      obtain ⟨hr, hl3, hl4, hk4⟩ := fin (some .ret) W3 hk3
      exact ⟨_, _, hr, .inr ⟨rfl, .ret, hIx.putObj _ hi3 zb17 hl3 rfl, hl4, hk4⟩⟩
    | exit id =>
      obtain ⟨hk3, hi3⟩ := hp
      obtain ⟨hr, hl3, hl4, hk4⟩ := fin (some (.exit id)) W3 hk3
      exact ⟨_, _, hr, .inr ⟨rfl, .exit id, hIx.putObj _ hi3 zb17 hl3 rfl, hl4, hk4⟩⟩
    | goto t =>
      obtain ⟨hk3, hi3⟩ := hp
      obtain ⟨hr, hl3, hl4, hk4⟩ := fin (some (.goto t)) W3 hk3
      exact ⟨_, _, hr, .inr ⟨rfl, .goto t, hIx.putObj _ hi3 zb17 hl3 rfl, hl4, hk4⟩⟩
    | panic ch => exact hp.elim
    | outgrown => exact hp.elim
  · rintro e W2 ⟨⟨v, rfl⟩, (⟨cur, hcur, hi, hl, hk⟩ | ⟨c, hi, hl, hk⟩)⟩
    · refine ⟨none, _, ?_, hdone _ cur _ (Nat.le_refl _) hcur (hI.putObj (.loop { R .ready none with state := .exhausted }) hi zb17 hl rfl) ((World.putObj_heap_other zb17).trans hk)⟩
      have := run_endLoop (P := Tryz.prog) hl (by rw [hR]; simp)
      rw [hR] at this ⊢
      exact this
    · refine ⟨some c, _, ?_, hstop _ c _ (Nat.le_refl _) (hIx.putObj (.loop { R .done (some c) with state := .exhausted }) hi zb17 hl rfl) ((World.putObj_heap_other zb17).trans hk)⟩
      have := run_endLoop (P := Tryz.prog) hl (by rw [hR]; simp)
      rw [hR] at this ⊢
      exact this
/-- How many bytes are left: what a box holds. -/
def leftIn (B : Nat) (W : World) : Nat := match W.cell? ⟨B, 0, none⟩ with
  | some (.string s) => s.size
  | _ => 0
theorem leftIn_of {B : Nat} {W : World} {s : ByteArray} (h : W.cell? ⟨B, 0, none⟩ = some (.string s)) : leftIn B W = s.size := by unfold leftIn; rw [h]
theorem boxed_of {B : Nat} {W W' : World} (h : W'.heap[B]? = W.heap[B]?) : W'.cell? ⟨B, 0, none⟩ = W.cell? ⟨B, 0, none⟩ := by
  unfold World.cell?
  rw [h]
theorem frozen_of {B : Nat} {W W' : World} (h : W'.heap[B]? = W.heap[B]?) : W'.frozen? ⟨B, 0, none⟩ = W.frozen? ⟨B, 0, none⟩ := by
  unfold World.frozen?
  rw [h]
theorem cut_no (cur : ByteArray) (m : Int) (w : World) (hs : cur.size < 4294967281) (hm : w.cell? ⟨1, 0, none⟩ = some (.int .i64 m)) (h : lineB cur = none) :
    CallsIn Fence.wide n Tryz.prog 31 #[.string cur, .string (⟨#[13, 10]⟩ : ByteArray)] w fun e w' => e = .returned (.tuple #[.string cur, .string ⟨#[]⟩, .bool false]) ∧ ∃ k, w' = w.drewN k := by
  refine callsIn_wide.2 ((Tryz.strings_Cut cur (⟨#[13, 10]⟩ : ByteArray) m w hs hm).mono ?_)
  have e : ((⟨#[13, 10]⟩ : ByteArray).data.toList) = [13, 10] := rfl
  rw [e, cut_none cur h]
  rintro e w' ⟨rfl, k, rfl⟩
  exact ⟨by simp, k, rfl⟩
theorem cut_yes (cur x y : ByteArray) (m : Int) (w : World) (hs : cur.size < 4294967281) (hm : w.cell? ⟨1, 0, none⟩ = some (.int .i64 m)) (h : lineB cur = some (x, y)) :
    CallsIn Fence.wide n Tryz.prog 31 #[.string cur, .string (⟨#[13, 10]⟩ : ByteArray)] w fun e w' => e = .returned (.tuple #[.string x, .string y, .bool true]) ∧ ∃ k, w' = w.drewN k := by
  refine callsIn_wide.2 ((Tryz.strings_Cut cur (⟨#[13, 10]⟩ : ByteArray) m w hs hm).mono ?_)
  have e : ((⟨#[13, 10]⟩ : ByteArray).data.toList) = [13, 10] := rfl
  rw [e, cut_some cur x y h]
  rintro e w' ⟨rfl, k, rfl⟩
  exact ⟨by simp, k, rfl⟩
set_option maxRecDepth 100000 in
set_option maxHeartbeats 4000000 in
theorem lines_stops (n : Nat) (hn : 1 ≤ n) (B : Nat) (s0 : ByteArray) (w : World) (hs : s0.size < 4294967281) (hB : B < w.heap.size) (hbox : Boxed w B 9 (.string s0)) :
    LinesOf Fence.wide n 97 #[.pointer (some ⟨B, 0, none⟩)] B s0 w := by
  intro l J Jx W hW hJ hJG hY h0
  have hfc : Fence.wide.fn 31 := trivial
  have hboxW : Hid (W.cell? ⟨B, 0, none⟩ = some (.string s0) ∧ W.frozen? ⟨B, 0, none⟩ = false) := Lib.hid ⟨(hW.cell (p := ⟨B, 0, none⟩) hB).trans hbox.cell, (hW.frozen (p := ⟨B, 0, none⟩) hB).trans hbox.frozen⟩
  clear hbox hW
  have h0' := Lib.hid h0
  clear h0
  have hJ' := Lib.hid hJ
  have hJG' := Lib.hid hJG
  have hY' := Lib.hid hY
  clear hJ hJG hY
  refine callsIn_of_wp Tryz.func97 rfl trivial ?_ rfl
  simp only [Tryz.ntmps97, List.size_toArray, List.length_cons, List.length_nil, Nat.reduceAdd, Nat.reduceSub, Array.replicate_succ, Array.replicate_zero, List.push_toArray, List.append_toArray, List.nil_append, List.cons_append]
  gi_wp2
  gi_loopw [3] (fun t wr => ∃ cur : ByteArray, cur.size < 4294967281 ∧ Hid (wr.cell? ⟨B, 0, none⟩ = some (.string cur) ∧ wr.frozen? ⟨B, 0, none⟩ = false) ∧ Hid (J cur wr)) (fun _ wr => leftIn B wr)
  case atStart => exact ⟨s0, hs, hboxW, h0'⟩
  case round =>
    obtain ⟨cur, hsz, hbx, hJc⟩ := hrel
    obtain ⟨hc0, hf0⟩ := hbx.out
    obtain ⟨m, hm⟩ := (hJG'.out cur wr hJc.out).cell
    have hleft := Lib.hid (leftIn_of hc0)
    rcases hline : lineB cur with _ | ⟨x, y⟩
    · have HC := Lib.hid (cut_no (n := n - 1) cur m wr hsz hm hline)
      have hline' := Lib.hid hline
      clear hm hline
      gi_wp2_with (gi_at_call 31; refine HC.out.mono ?_; rintro e w' ⟨rfl, k, rfl⟩)
      refine ⟨fun _ h => (by cases h), ?_⟩
      gi_wp2
      refine bodyPost_ret (results_none rfl _ _ _) rfl ?_
      exact ⟨⟨_, rfl⟩, .inl ⟨cur, hline'.out, (hJ'.out cur).drew _ k hJc.out⟩⟩
    · have HC := Lib.hid (cut_yes (n := n - 1) cur x y m wr hsz hm hline)
      have hR0 := Lib.hid (fun k => hY'.out cur x y (wr.drewN k) ((hJ'.out cur).drew _ k hJc.out) hline)
      have hsy := Lib.hid (lineB_size cur x y hline)
      clear hm hline
      gi_wp2_with (gi_at_call 31; refine HC.out.mono ?_; rintro e w' ⟨rfl, k, rfl⟩; obtain ⟨fn, tmps, assign, body, hy, hR⟩ := hR0.out k; have hR := Lib.hid hR)
      refine hR.out.mono ?_
      rintro e W3 (⟨rfl, hJ3, hb3⟩ | ⟨rfl, hx3⟩)
      · have hc3 : W3.cell? ⟨B, 0, none⟩ = some (.string cur) := (boxed_of hb3).trans hc0
        have hf3 : W3.frozen? ⟨B, 0, none⟩ = false := (frozen_of hb3).trans hf0
        have hset := Lib.hid (World.cell?_setCell_same W3 ⟨B, 0, none⟩ (.string y) hc3)
        have hJ4 := Lib.hid ((hJ'.out y).set W3 (.string y) hJ3)
        clear hJ3 hb3
        gi_wp2
        go_roundw
        case rel => exact ⟨y, by have := hsy.out; omega, Lib.hid ⟨hset.out, by rw [World.frozen?_setCell]; exact hf3⟩, hJ4⟩
        case measure =>
          rw [leftIn_of hset.out, hleft.out]
          have := hsy.out
          omega
      · have hx3 := Lib.hid hx3
        gi_wp2
        refine bodyPost_ret (results_none rfl _ _ _) rfl ?_
        exact ⟨⟨_, rfl⟩, .inr hx3.out⟩
end Go.Proofs.YteonhdfjfjpbjaaGreatDoor.O
/- SpC -/
namespace Go.Proofs.YteonhdfjfjpbjaaGreatDoor.Sp
open Go Go.RowKit Go.Proofs.YteonhdfjfjpbjaaGreatDoorW.PrintWords Go.Proofs.YteonhdfjfjpbjaaGreatDoorW.PrintLast Go.Proofs.YteonhdfjfjpbjaaGreatDoor.O Go.Proofs.YteonhdfjfjpbjaaGreatDoor.P
set_option linter.unusedVariables false
set_option linter.unusedSimpArgs false
theorem sig_all : ∀ a : Fin 256, (decide (Lib.indexByte signs (UInt8.ofNat a.val) ≥ 0)) = signs.contains (UInt8.ofNat a.val) := by decide +kernel
theorem u8_fin (c : UInt8) : ∃ a : Fin 256, c = UInt8.ofNat a.val := ⟨⟨c.toNat, c.toNat_lt⟩, by simp⟩
theorem sig_index (c : UInt8) : Lib.indexByte signs c ≥ 0 ↔ tokB c = true := by
  obtain ⟨a, rfl⟩ := u8_fin c
  have := sig_all a
  unfold tokB
  rw [← this]
  simp
theorem sigF (c : UInt8) : strings_IndexByte.f (mk signs) (c.toNat : Int) = some (Lib.indexByte signs c) := by
  unfold strings_IndexByte.f
  rw [mk_data]
  congr 2
  simp
theorem take_tw (p : UInt8 → Bool) (s : L) : s.take (s.takeWhile p).length = s.takeWhile p := by
  have h : s.takeWhile p ++ s.dropWhile p = s := List.takeWhile_append_dropWhile
  generalize s.takeWhile p = a at *
  generalize s.dropWhile p = b at *
  subst h
  simp
theorem drop_tw (p : UInt8 → Bool) (s : L) : s.drop (s.takeWhile p).length = s.dropWhile p := by
  have h : s.takeWhile p ++ s.dropWhile p = s := List.takeWhile_append_dropWhile
  generalize s.takeWhile p = a at *
  generalize s.dropWhile p = b at *
  subst h
  simp
theorem tw_len (p : UInt8 → Bool) (s : L) : (s.takeWhile p).length ≤ s.length := by
  have h : s.takeWhile p ++ s.dropWhile p = s := List.takeWhile_append_dropWhile
  have := congrArg List.length h
  rw [List.length_append] at this
  omega
theorem dw_len (p : UInt8 → Bool) (s : L) : (s.dropWhile p).length ≤ s.length := by
  have h : s.takeWhile p ++ s.dropWhile p = s := List.takeWhile_append_dropWhile
  have := congrArg List.length h
  rw [List.length_append] at this
  omega
theorem tok_l0 (s : L) (hs : s.length ≤ 1000000000000) : ∀ (d k i : Nat), i + d = s.length → d < k →
    media_Text_Token.l0 k i (mk s) = some (mk (s.take (i + ((s.drop i).takeWhile tokB).length)), mk (s.drop (i + ((s.drop i).takeWhile tokB).length))) := by
  intro d
  induction d with
  | zero =>
    intro k i hi hk
    obtain ⟨k, rfl⟩ : ∃ k', k = k' + 1 := ⟨k - 1, by omega⟩
    rw [media_Text_Token.l0, if_neg (by rw [mk_size]; omega), if_pos (by omega), if_pos (by rw [mk_size]; omega), List.drop_eq_nil_of_le (by omega)]
    simp only [Int.toNat_natCast, List.takeWhile_nil, List.length_nil, Nat.add_zero, ext_to, ext_from]
  | succ d ih =>
    intro k i hi hk
    obtain ⟨k, rfl⟩ : ∃ k', k = k' + 1 := ⟨k - 1, by omega⟩
    obtain ⟨b, e1, e2⟩ := mk_bt s i (by omega)
    have hw : wrap64 ((i : Int) + 1) = ((i + 1 : Nat) : Int) := by rw [wrap_id (by omega) (by omega)]; omega
    rw [media_Text_Token.l0, if_pos (by rw [mk_size]; omega), if_pos (by omega), e2]
    rw [show (⟨#[48, 49, 50, 51, 52, 53, 54, 55, 56, 57, 65, 66, 67, 68, 69, 70, 71, 72, 73, 74, 75, 76, 77, 78, 79, 80, 81, 82, 83, 84, 85, 86, 87, 88, 89, 90, 97, 98, 99, 100, 101, 102, 103, 104, 105, 106, 107, 108, 109, 110, 111, 112, 113, 114, 115, 116, 117, 118, 119, 120, 121, 122, 33, 35, 36, 37, 38, 39, 42, 43, 45, 46, 94, 95, 96, 124, 126]⟩ : ByteArray) = mk signs from rfl, sigF]
    simp only [Option.bind_some]
    by_cases ht : tokB b = true
    · rw [if_pos ((sig_index b).2 ht), hw, ih k (i + 1) (by omega) (by omega), e1, List.takeWhile_cons_of_pos ht]
      simp only [List.length_cons]
      rw [show i + 1 + ((s.drop (i + 1)).takeWhile tokB).length = i + (((s.drop (i + 1)).takeWhile tokB).length + 1) by omega]
    · rw [if_neg (fun h => ht ((sig_index b).1 h)), if_pos (by rw [mk_size]; omega), e1, List.takeWhile_cons_of_neg ht]
      simp only [Int.toNat_natCast, List.length_nil, Nat.add_zero, ext_to, ext_from]
theorem tokF (s : L) (k : Nat) (hs : s.length ≤ 1000000000000) (hk : s.length < k) : media_Text_Token.f k (mk s) = some (mk (tok s).1, mk (tok s).2) := by
  unfold media_Text_Token.f
  have := tok_l0 s hs s.length k 0 (by omega) hk
  simp only [List.drop_zero, Nat.zero_add] at this
  rw [show (0 : Int) = ((0 : Nat) : Int) from rfl, this, take_tw, drop_tw]
  rfl
def isTok (s : L) : Bool := decide ((tok s).1 ≠ []) && decide ((tok s).2 = [])
theorem isTokF (s : L) (k : Nat) (hs : s.length ≤ 1000000000000) (hk : s.length < k) : field_token.f k (mk s) = some (isTok s) := by
  unfold field_token.f isTok
  rw [tokF s k hs hk]
  simp only [Option.bind_some, tl_mk]
  by_cases h : (tok s).1 = []
  · rw [if_pos h]; simp [h]
  · rw [if_neg h]
    simp [h]
    by_cases h2 : (tok s).2 = [] <;> simp [h2]
theorem bl_all : ∀ a : Fin 256, ([32, 9] : L).contains (UInt8.ofNat a.val) = bl (UInt8.ofNat a.val) := by decide +kernel
theorem bl_eq : ([32, 9].contains · : UInt8 → Bool) = bl := by
  funext c
  obtain ⟨a, rfl⟩ := u8_fin c
  exact bl_all a
theorem mem_tw {p : UInt8 → Bool} : ∀ {s : L} {x : UInt8}, x ∈ s.takeWhile p → p x = true
  | [], _, h => by simp at h
  | c :: s, x, h => by
    by_cases hc : p c = true
    · rw [List.takeWhile_cons_of_pos hc] at h
      rcases List.mem_cons.1 h with rfl | h
      · exact hc
      · exact mem_tw h
    · rw [List.takeWhile_cons_of_neg hc] at h
      simp at h
theorem rd_app (a b : L) (h : skip b.reverse ≠ []) : skip (a ++ b).reverse = skip b.reverse ++ a.reverse := by
  unfold skip at *
  rw [List.reverse_append]
  generalize b.reverse = u at *
  induction u with
  | nil => simp at h
  | cons c u ih =>
    by_cases hc : bl c = true
    · rw [List.dropWhile_cons_of_pos hc] at h
      rw [List.cons_append, List.dropWhile_cons_of_pos hc, List.dropWhile_cons_of_pos hc]
      exact ih h
    · rw [List.cons_append, List.dropWhile_cons_of_neg hc, List.dropWhile_cons_of_neg hc, List.cons_append]
theorem skip_nil {s : L} (h : skip s = []) : ∀ c ∈ s, bl c = true := by
  induction s with
  | nil => simp
  | cons c s ih =>
    unfold skip at h ih
    by_cases hc : bl c = true
    · rw [List.dropWhile_cons_of_pos hc] at h
      intro d hd
      rcases List.mem_cons.1 hd with rfl | hd
      · exact hc
      · exact ih h d hd
    · rw [List.dropWhile_cons_of_neg hc] at h
      simp at h
theorem skip_all {s : L} (h : ∀ c ∈ s, bl c = true) : skip s = [] := by
  induction s with
  | nil => rfl
  | cons c s ih =>
    unfold skip at ih ⊢
    rw [List.dropWhile_cons_of_pos (h c (by simp))]
    exact ih (fun d hd => h d (by simp [hd]))
theorem skip_head {s : L} (h : skip s ≠ []) : ∃ c r, skip s = c :: r ∧ bl c = false := by
  induction s with
  | nil => simp [skip] at h
  | cons c s ih =>
    unfold skip at h ih ⊢
    by_cases hc : bl c = true
    · rw [List.dropWhile_cons_of_pos hc] at h ⊢
      exact ih h
    · rw [List.dropWhile_cons_of_neg hc]
      exact ⟨c, s, rfl, by simpa using hc⟩
theorem trim_comm (s : L) : skip (skip s.reverse).reverse = trim s := by
  unfold trim
  by_cases h : skip s = []
  · have ha := skip_nil h
    rw [h, skip_all (s := s.reverse) (fun c hc => ha c (List.mem_reverse.1 hc))]
    rfl
  · obtain ⟨c, r, e, hc⟩ := skip_head h
    have hs : s = s.takeWhile bl ++ skip s := (List.takeWhile_append_dropWhile).symm
    have hne : skip (skip s).reverse ≠ [] := by
      intro e2
      have := skip_nil e2 c (by rw [e]; simp)
      rw [hc] at this
      simp at this
    have h1 : skip s.reverse = skip (skip s).reverse ++ (s.takeWhile bl).reverse := by
      conv => lhs; rw [hs]
      exact rd_app _ _ hne
    rw [h1, List.reverse_append, List.reverse_reverse]
    -- the head that is kept is no blank
    have hb : ∀ x ∈ s.takeWhile bl, bl x = true := fun x hx => mem_tw hx
    have hk : ∃ d t, (skip (skip s).reverse).reverse = d :: t ∧ bl d = false := by
      have hpre : ∃ t, (skip s).reverse = t ++ skip (skip s).reverse := ⟨(skip s).reverse.takeWhile bl, (List.takeWhile_append_dropWhile).symm⟩
      obtain ⟨t, ht⟩ := hpre
      have h3 := congrArg List.reverse ht
      rw [List.reverse_reverse, List.reverse_append] at h3
      cases e4 : (skip (skip s).reverse).reverse with
      | nil => exact absurd (List.reverse_eq_nil_iff.1 e4) hne
      | cons d u =>
        rw [e4, e] at h3
        simp at h3
        exact ⟨d, u, rfl, by rw [← h3.1]; exact hc⟩
    obtain ⟨d, t, e5, hd⟩ := hk
    rw [e5]
    generalize s.takeWhile bl = a at *
    clear h1 hs
    induction a with
    | nil =>
      show skip (d :: t) = d :: t
      unfold skip
      rw [List.dropWhile_cons_of_neg (by rw [hd]; simp)]
    | cons x a ih =>
      have hx := hb x (by simp)
      unfold skip at ih ⊢
      rw [List.cons_append, List.dropWhile_cons_of_pos hx]
      exact ih (fun y hy => hb y (by simp [hy]))
theorem trimS_eq (s : L) : Lib.trimS s [32, 9] = trim s := by
  unfold Lib.trimS Lib.trimLeftS Lib.trimRightS
  rw [bl_eq, ← trim_comm]
  rfl
theorem trimF (s : L) (hs : s.length ≤ 1000000000000) : strings_Trim.f (mk s) (⟨#[32, 9]⟩ : ByteArray) = some (mk (trim s)) := by
  unfold strings_Trim.f
  rw [if_pos ⟨by rw [mk_size]; omega, by decide, by decide⟩, mk_data]
  have e : ((⟨#[32, 9]⟩ : ByteArray).data.toList) = [32, 9] := rfl
  rw [e, trimS_eq]
  rfl
theorem skipF (s : L) : strings_TrimLeft.f (mk s) (⟨#[32, 9]⟩ : ByteArray) = some (mk (skip s)) := by
  unfold strings_TrimLeft.f
  rw [if_pos ⟨by decide, by decide⟩, mk_data]
  have e : ((⟨#[32, 9]⟩ : ByteArray).data.toList) = [32, 9] := rfl
  rw [e]
  unfold Lib.trimLeftS
  rw [bl_eq]
  rfl
theorem skip_len (s : L) : (skip s).length ≤ s.length := dw_len _ _
theorem trim_len (s : L) : (trim s).length ≤ s.length := by
  unfold trim
  have h1 := skip_len (skip s).reverse
  have h2 := skip_len s
  rw [List.length_reverse] at h1 ⊢
  omega
theorem lowI_b (c : UInt8) : UInt8.ofNat (lowI c.toNat).toNat = lowB c := by
  have h := c.toNat_lt
  unfold lowI lowB
  by_cases hc : 65 ≤ c.toNat ∧ c.toNat ≤ 90
  · rw [if_pos hc, if_pos (by omega)]
    congr 1
  · rw [if_neg hc, if_neg (by omega)]
    simp
theorem range_map (s : L) (f : UInt8 → UInt8) (g : Nat → Int) (h : ∀ (j : Nat) (hj : j < s.length), UInt8.ofNat (g j).toNat = f s[j]) : ((List.range s.length).map g).map (fun x => UInt8.ofNat x.toNat) = s.map f := by
  apply List.ext_getElem
  · simp
  · intro j h1 h2
    simp at h1 h2 ⊢
    exact h j h2
theorem lowF (s : L) (hs : s.length ≤ 1000000000000) : media_Small.f (mk s) = some (mk (low s)) := by
  unfold media_Small.f
  rw [if_pos (by rw [mk_size]; omega)]
  congr 1
  unfold strOfNums smallAt low
  apply ba_ext
  rw [mk_data, mk_size]
  simp only [List.toList_toArray]
  refine range_map s lowB _ (fun j hj => ?_)
  obtain ⟨b, e1, e2⟩ := mk_bt s j hj
  have e3 : s[j] = b := by
    have := List.drop_eq_getElem_cons hj
    rw [e1] at this
    exact (List.cons.inj this).1.symm
  rw [if_pos hj, e2, e3, lowI_b]
theorem low_len (s : L) : (low s).length = s.length := by simp [low]
theorem badI_b (c : UInt8) : badI (c.toNat : Int) = ctl c := by
  unfold badI ctl
  have h9 : ((c.toNat : Int) == 9) = (c == 9) := by
    rw [Bool.eq_iff_iff, beq_iff_eq, beq_iff_eq, show (9 : Int) = ((9 : Nat) : Int) from rfl, u8i c 9 (by omega)]
    rfl
  have h127 : ((c.toNat : Int) == 127) = (c == 127) := by
    rw [Bool.eq_iff_iff, beq_iff_eq, beq_iff_eq, show (127 : Int) = ((127 : Nat) : Int) from rfl, u8i c 127 (by omega)]
    rfl
  have h32 : decide ((c.toNat : Int) < 32) = decide (c.toNat < 32) := by
    rw [Bool.eq_iff_iff, decide_eq_true_eq, decide_eq_true_eq]
    omega
  rw [h9, h127, h32]
theorem any_ctl (s : L) : (List.range (mk s).size).any (fun j => badI (bt (mk s) j)) = !s.all (fun c => !ctl c) := by
  rw [mk_size, Bool.eq_iff_iff, List.any_eq_true, Bool.not_eq_true', List.all_eq_false]
  constructor
  · rintro ⟨j, hj, h⟩
    have hj := List.mem_range.1 hj
    obtain ⟨b, e1, e2⟩ := mk_bt s j hj
    rw [e2, badI_b] at h
    exact ⟨b, List.mem_of_mem_drop (by rw [e1]; simp), by simp [h]⟩
  · rintro ⟨b, hb, h⟩
    obtain ⟨j, hj, rfl⟩ := List.getElem_of_mem hb
    obtain ⟨b, e1, e2⟩ := mk_bt s j hj
    have e3 : s[j] = b := by
      have := List.drop_eq_getElem_cons hj
      rw [e1] at this
      exact (List.cons.inj this).1.symm
    refine ⟨j, List.mem_range.2 hj, ?_⟩
    rw [e2, badI_b, ← e3]
    simpa using h
theorem fvalF (s : L) (hs : s.length ≤ 1000000000000) : field_value.f (mk s) = some (fval s) := by
  unfold field_value.f
  rw [if_pos (by rw [mk_size]; omega), any_ctl]
  unfold fval trimB
  congr 1
  rw [mk_data, trimS_eq]
  have e : (⟨(trim s).toArray⟩ : ByteArray) = mk (trim s) := rfl
  rw [e, tl_mk, tl_mk]
  cases s.all (fun c => !ctl c) with
  | false => simp
  | true => 
    simp
    rw [Bool.eq_iff_iff]
    simp
theorem cut_l (s sep : L) : strings_Cut.f (mk s) (mk sep) = if s.length < 4294967281 then some (mk (Lib.cut s sep).1, mk (Lib.cut s sep).2.1, (Lib.cut s sep).2.2) else none := by
  unfold strings_Cut.f cutF
  rw [mk_size, mk_data, mk_data]
  rfl
theorem index1_eq (c : UInt8) (r : L) : Lib.index (c :: r) [c] = 0 := by simp [Lib.index, List.isPrefixOf]
theorem index1_other (c x : UInt8) (r : L) (h : x ≠ c) : Lib.index (x :: r) [c] = if Lib.index r [c] == -1 then -1 else Lib.index r [c] + 1 := by
  have h' : (c == x) = false := by simpa using fun e : c = x => h e.symm
  simp [Lib.index, List.isPrefixOf, h']
theorem index1 (c : UInt8) : ∀ s : L, (c ∉ s ∧ Lib.index s [c] = -1) ∨ (∃ a b, s = a ++ c :: b ∧ c ∉ a ∧ Lib.index s [c] = a.length)
  | [] => .inl ⟨by simp, by simp [Lib.index]⟩
  | x :: r => by
    by_cases h : x = c
    · subst h
      exact .inr ⟨[], r, rfl, by simp, by rw [index1_eq]; rfl⟩
    · rw [index1_other c x r h]
      rcases index1 c r with ⟨e1, e2⟩ | ⟨a, b, e1, e2, e3⟩
      · rw [e2]
        exact .inl ⟨by simp [e1]; exact fun e => h e.symm, rfl⟩
      · rw [e3]
        have hb : ((a.length : Int) == -1) = false := by simp
        rw [hb, if_neg (by decide)]
        exact .inr ⟨x :: a, b, by simp [e1], by simp [e2]; exact fun e => h e.symm, by simp⟩
theorem cut1_none {c : UInt8} {s : L} (h : c ∉ s) : Lib.cut s [c] = (s, [], false) := by
  rcases index1 c s with ⟨e1, e2⟩ | ⟨a, b, e1, e2, e3⟩
  · unfold Lib.cut; rw [e2, if_neg (by omega)]
  · exact absurd (by rw [e1]; simp) h
theorem cut1_some {c : UInt8} (a b : L) (h : c ∉ a) : Lib.cut (a ++ c :: b) [c] = (a, b, true) := by
  rcases index1 c (a ++ c :: b) with ⟨e1, e2⟩ | ⟨a', b', e1, e2, e3⟩
  · exact absurd (by simp) e1
  · have hl : a = a' ∧ b = b' := by
      clear e3
      induction a generalizing a' with
      | nil =>
        cases a' with
        | nil => simp at e1; exact ⟨rfl, e1⟩
        | cons x a' => simp at e1; exact absurd (by simp [e1.1]) e2
      | cons y a ih =>
        cases a' with
        | nil => simp at e1; exact absurd (by simp [e1.1]) h
        | cons x a' =>
          simp at e1
          obtain ⟨rfl, e1⟩ := e1
          obtain ⟨h1, h2⟩ := ih (fun e => h (by simp [e])) a' e1 (fun e => e2 (by simp [e]))
          exact ⟨by rw [h1], h2⟩
    obtain ⟨rfl, rfl⟩ := hl
    unfold Lib.cut
    rw [e3, if_pos (by omega)]
    simp
theorem tok58 : tokB 58 = false := by decide
theorem tok_app {a b : L} {c : UInt8} (ha : ∀ x ∈ a, tokB x = true) (hc : tokB c = false) : tok (a ++ c :: b) = (a, c :: b) := by
  unfold tok
  induction a with
  | nil =>
    have hc' : ¬ tokB c = true := by rw [hc]; simp
    simp only [List.nil_append]
    rw [List.takeWhile_cons_of_neg hc', List.dropWhile_cons_of_neg hc']
  | cons x a ih =>
    have hx := ha x (by simp)
    have := ih (fun y hy => ha y (by simp [hy]))
    rw [List.cons_append, List.takeWhile_cons_of_pos hx, List.dropWhile_cons_of_pos hx]
    simp only [Prod.mk.injEq] at this
    rw [this.1, this.2]
theorem tok_all {a : L} (ha : ∀ x ∈ a, tokB x = true) : tok a = (a, []) := by
  unfold tok
  induction a with
  | nil => rfl
  | cons x a ih =>
    have hx := ha x (by simp)
    have := ih (fun y hy => ha y (by simp [hy]))
    rw [List.takeWhile_cons_of_pos hx, List.dropWhile_cons_of_pos hx]
    simp only [Prod.mk.injEq] at this
    rw [this.1, this.2]
theorem tok_parts (s : L) : s = (tok s).1 ++ (tok s).2 ∧ (∀ x ∈ (tok s).1, tokB x = true) ∧ (∀ c r, (tok s).2 = c :: r → tokB c = false) := by
  refine ⟨(List.takeWhile_append_dropWhile).symm, fun x hx => mem_tw hx, fun c r h => ?_⟩
  · unfold tok at h
    simp only at h
    induction s with
    | nil => simp at h
    | cons x s ih =>
      by_cases hx : tokB x = true
      · rw [List.dropWhile_cons_of_pos hx] at h
        exact ih h
      · rw [List.dropWhile_cons_of_neg hx] at h
        obtain ⟨rfl, rfl⟩ := List.cons.inj h
        simpa using hx
theorem isTok_iff (s : L) : isTok s = true ↔ s ≠ [] ∧ ∀ x ∈ s, tokB x = true := by
  obtain ⟨h1, h2, h3⟩ := tok_parts s
  unfold isTok
  simp only [Bool.and_eq_true, decide_eq_true_eq]
  constructor
  · rintro ⟨a, b⟩
    rw [b, List.append_nil] at h1
    exact ⟨by rw [h1]; exact a, by rw [h1]; exact h2⟩
  · rintro ⟨a, b⟩
    rw [tok_all b]
    exact ⟨a, rfl⟩
/-- What the program makes of a line. -/
def pairP (l : L) : L × L × Bool := (low (Lib.cut l [58]).1, trim (Lib.cut l [58]).2.1, (Lib.cut l [58]).2.2 && isTok (Lib.cut l [58]).1 && fval (trim (Lib.cut l [58]).2.1))
theorem pairP_eq (l : L) : pairOf l = if (pairP l).2.2 = true then some ((pairP l).1, (pairP l).2.1) else none := by
  obtain ⟨h1, h2, h3⟩ := tok_parts l
  unfold pairP pairOf
  rcases index1 58 l with ⟨e1, _⟩ | ⟨a, b, e1, e2, _⟩
  · rw [cut1_none e1]
    simp only [Bool.false_and]
    refine Eq.trans ?_ (if_neg (by decide)).symm
    by_cases q1 : (tok l).1 = []
    · rw [if_pos q1]
    · rw [if_neg q1, if_pos]
      intro q2
      apply e1
      rw [h1]
      cases e : (tok l).2 with
      | nil => rw [e] at q2; simp at q2
      | cons c r => rw [e] at q2; simp at q2; subst q2; simp
  · rw [e1, cut1_some a b e2]
    simp only [Bool.true_and]
    by_cases ha : ∀ x ∈ a, tokB x = true
    · rw [tok_app ha tok58]
      simp only [List.head?_cons, List.tail_cons]
      by_cases q1 : a = []
      · rw [if_pos q1, if_neg]
        simp [q1, isTok, tok]
      · have hi : isTok a = true := (isTok_iff a).2 ⟨q1, ha⟩
        rw [if_neg q1, hi, Bool.true_and]
        simp <;> rfl
    · have hi : isTok a = false := by
        rw [Bool.eq_false_iff]
        exact fun h => ha ((isTok_iff a).1 h).2
      rw [hi, Bool.false_and]
      refine Eq.trans ?_ (if_neg (by decide)).symm
      rw [← e1]
      by_cases q1 : (tok l).1 = []
      · rw [if_pos q1]
      · rw [if_neg q1, if_pos]
        intro q2
        apply ha
        -- the token would end at the first 58
        cases e : (tok l).2 with
        | nil => rw [e] at q2; simp at q2
        | cons c r =>
          rw [e] at q2
          simp at q2
          subst q2
          rw [e, e1] at h1
          have hn : (58 : UInt8) ∉ (tok (a ++ 58 :: b)).1 := fun h => by
            have := h2 58 (by rw [e1]; exact h)
            rw [tok58] at this
            simp at this
          have c1 := cut1_some a b e2
          have c2 := cut1_some (tok (a ++ 58 :: b)).1 r hn
          rw [← h1, c1] at c2
          have c3 := (Prod.mk.inj c2).1
          intro x hx
          rw [c3] at hx
          exact h2 x (by rw [e1]; exact hx)
theorem pairF (l : L) (k : Nat) (hl : l.length < 4294967281) (hk : l.length < k) : field_pair.f k (mk l) = some (mk (pairP l).1, mk (pairP l).2.1, (pairP l).2.2) := by
  have hc : (Lib.cut l [58]).1.length ≤ l.length ∧ (Lib.cut l [58]).2.1.length ≤ l.length := by
    rcases index1 58 l with ⟨e1, _⟩ | ⟨a, b, e1, e2, _⟩
    · rw [cut1_none e1]; simp
    · rw [e1, cut1_some a b e2]; simp; omega
  unfold field_pair.f pairP
  rw [show (⟨#[58]⟩ : ByteArray) = mk [58] from rfl, cut_l, if_pos hl]
  generalize Lib.cut l [58] = q at *
  obtain ⟨x, y, z⟩ := q
  simp only [Option.bind_some] at hc ⊢
  have ht := trim_len y
  rw [trimF y (by omega)]
  simp only [Option.bind_some]
  rw [lowF x (by omega)]
  simp only [Option.bind_some]
  cases z with
  | false => simp
  | true =>
    rw [if_pos rfl, isTokF x k (by omega) (by omega)]
    simp only [Option.bind_some, Bool.true_and]
    cases isTok x with
    | false => simp
    | true =>
      rw [if_pos rfl, fvalF _ (by omega)]
      simp
theorem quoted_suf : ∀ (s : L) (p : L × L), quoted s = some p → ∃ a, s = a ++ p.2 ∧ a ≠ []
  | [], _, h => by simp [quoted] at h
  | c :: r, p, h => by
    unfold quoted at h
    split at h
    · obtain rfl := Option.some.inj h
      exact ⟨[c], rfl, by simp⟩
    · split at h
      · cases r with
        | nil => simp at h
        | cons d r' =>
          simp only at h
          split at h
          · simp at h
          · cases e : quoted r' with
            | none => rw [e] at h; simp at h
            | some q =>
              rw [e] at h
              simp at h
              subst h
              obtain ⟨a, ha, _⟩ := quoted_suf r' q e
              exact ⟨c :: d :: a, by simp [← ha], by simp⟩
      · split at h
        · simp at h
        · cases e : quoted r with
          | none => rw [e] at h; simp at h
          | some q =>
            rw [e] at h
            simp at h
            subst h
            obtain ⟨a, ha, _⟩ := quoted_suf r q e
            exact ⟨c :: a, by simp [← ha], by simp⟩
theorem quoted_cons (c : UInt8) (r : L) : quoted (c :: r) = if c = 34 then some ([], r) else if c = 92 then (match r with
      | [] => none
      | d :: r' => if ctl d = true then none else (quoted r').map fun p => (d :: p.1, p.2))
    else if ctl c = true then none else (quoted r).map fun p => (c :: p.1, p.2) := by rw [quoted.eq_def]; cases r <;> rfl
theorem oneB_mk (b : UInt8) : oneB (b.toNat : Int) = mk [b] := by
  unfold oneB mk
  simp
theorem app_mk (acc : ByteArray) (a b : L) : acc ++ mk a ++ mk b = acc ++ mk (a ++ b) := by
  apply ba_ext
  simp [mk_data]
theorem qtF_eq (s : L) : ∀ (d f k : Nat) (acc : ByteArray), k + d = s.length → d < f → qtF (mk s) f k acc = (quoted (s.drop k)).map fun p => (acc ++ mk p.1, s.length - p.2.length) := by
  intro d
  induction d using Nat.strongRecOn with
  | _ d ih =>
    intro f k acc hk hf
    obtain ⟨f, rfl⟩ : ∃ f', f = f' + 1 := ⟨f - 1, by omega⟩
    rw [qtF, mk_size]
    by_cases hd : d = 0
    · rw [if_neg (by omega), List.drop_eq_nil_of_le (by omega)]
      rfl
    rw [if_pos (by omega)]
    obtain ⟨b, e1, e2⟩ := mk_bt s k (by omega)
    rw [e1, e2, quoted_cons]
    have c34 : ((b.toNat : Int) = 34) ↔ b = 34 := u8i b 34 (by omega)
    have c92 : ((b.toNat : Int) = 92) ↔ b = 92 := u8i b 92 (by omega)
    by_cases h1 : b = 34
    · rw [if_pos (c34.2 h1), if_pos h1]
      simp only [Option.map_some]
      congr 2
      · apply ba_ext; simp [mk_data]
      · rw [List.length_drop]; omega
    · rw [if_neg (fun h => h1 (c34.1 h)), if_neg h1]
      by_cases h2 : b = 92
      · rw [if_pos (c92.2 h2), if_pos h2]
        by_cases h3 : k + 1 < s.length
        · rw [if_pos h3]
          obtain ⟨b', e3, e4⟩ := mk_bt s (k + 1) h3
          rw [e3, e4, badI_b]
          simp only
          by_cases h4 : ctl b' = true
          · rw [if_pos h4, if_pos h4]; rfl
          · rw [if_neg h4, if_neg h4, oneB_mk, ih (d - 2) (by omega) f (k + 2) _ (by omega) (by omega)]
            rw [Option.map_map]
            congr 1
            funext p
            simp only [Function.comp]
            rw [app_mk]
            rfl
        · rw [if_neg h3, List.drop_eq_nil_of_le (by omega)]
          rfl
      · rw [if_neg (fun h => h2 (c92.1 h)), if_neg h2, badI_b]
        by_cases h4 : ctl b = true
        · rw [if_pos h4, if_pos h4]; rfl
        · rw [if_neg h4, if_neg h4, oneB_mk, ih (d - 1) (by omega) f (k + 1) _ (by omega) (by omega)]
          rw [Option.map_map]
          congr 1
          funext p
          simp only [Function.comp]
          rw [app_mk]
          rfl
theorem quotedF (s : L) (hs : s.length ≤ 1000000000000) : Text_Quoted.f (mk s) = some (match quoted s with
    | some p => (mk p.1, true, mk p.2)
    | none => (mk [], false, mk s)) := by
  unfold Text_Quoted.f
  rw [if_pos (by rw [mk_size]; omega), qtF_eq s s.length ((mk s).size + 1) 0 _ (by omega) (by rw [mk_size]; omega), List.drop_zero]
  cases e : quoted s with
  | none => rfl
  | some p =>
    obtain ⟨a, ha, _⟩ := quoted_suf s p e
    simp only [Option.map_some, qtR]
    congr 1
    have e1 : (⟨#[]⟩ : ByteArray) ++ mk p.1 = mk p.1 := by apply ba_ext; simp [mk_data]
    have e2 : (mk s).extract (s.length - p.2.length) (mk s).size = mk p.2 := by
      rw [ext_from]
      congr 1
      have hl : s.length - p.2.length = a.length := by rw [ha, List.length_append]; omega
      rw [hl]
      conv => lhs; rw [ha]
      simp
    rw [e1, e2]
def hasP (s p : L) : Bool := decide (s.take p.length = p)
theorem hasF (s p : L) : stringslite_HasPrefix.f (mk s) (mk p) = some (hasP s p) := by
  unfold stringslite_HasPrefix.f hasP
  rw [mk_size, mk_size]
  by_cases h : (s.length : Int) ≥ p.length
  · rw [if_pos h, if_pos (by omega), if_pos (by omega), ext_to, tl_mk, tl_mk]
    congr 1
    simp only [Int.toNat_natCast]
    rw [Bool.eq_iff_iff]
    simp
  · rw [if_neg h]
    congr 1
    symm
    rw [decide_eq_false_iff_not]
    intro e
    have := congrArg List.length e
    rw [List.length_take] at this
    omega
theorem cutPF (s p : L) : strings_CutPrefix.f (mk s) (mk p) = some (if hasP s p = true then (mk (s.drop p.length), true) else (mk s, false)) := by
  unfold strings_CutPrefix.f stringslite_CutPrefix.f
  rw [hasF]
  simp only [Option.bind_some]
  cases h : hasP s p with
  | false => simp
  | true =>
    have hl : p.length ≤ s.length := by
      unfold hasP at h
      have := congrArg List.length (of_decide_eq_true h)
      rw [List.length_take] at this
      omega
    rw [if_pos rfl, if_pos (by omega), if_pos (by rw [mk_size, mk_size]; omega)]
    simp only [Option.bind_some, if_true]
    rw [show (((mk p).size : Int)).toNat = p.length from by rw [mk_size]; rfl, ext_from]
theorem takeF (s p : L) : media_Text_Take.f (mk s) (mk p) = some (if hasP s p = true then (true, mk (s.drop p.length)) else (false, mk s)) := by
  unfold media_Text_Take.f
  rw [cutPF]
  cases h : hasP s p <;> simp
theorem hasP_one (s : L) (c : UInt8) : hasP s [c] = true ↔ s.head? = some c := by
  unfold hasP
  rw [decide_eq_true_eq]
  cases s with
  | nil => simp
  | cons x r => simp
theorem take1F (s : L) (c : UInt8) : media_Text_Take.f (mk s) (mk [c]) = some (if s.head? = some c then (true, mk s.tail) else (false, mk s)) := by
  rw [takeF]
  by_cases h : s.head? = some c
  · rw [if_pos ((hasP_one s c).2 h), if_pos h]
    cases s <;> rfl
  · rw [if_neg (fun e => h ((hasP_one s c).1 e)), if_neg h]
theorem valueF (s : L) (k : Nat) (hs : s.length ≤ 1000000000000) (hk : s.length < k) : ∃ q, media_Text_Value.f k (mk s) = some q ∧ (∀ v r, value s = some (v, r) → q = (mk v, true, mk r)) ∧ (value s = none → q.2.1 = false) := by
  unfold media_Text_Value.f
  rw [show (⟨#[34]⟩ : ByteArray) = mk [34] from rfl, take1F]
  simp only [Option.bind_some]
  by_cases h : s.head? = some 34
  · have hv : value s = quoted s.tail := by unfold value; rw [if_pos h]
    rw [if_pos h, hv]
    simp only [if_true]
    have hl : s.tail.length ≤ s.length := by rw [List.length_tail]; omega
    rw [quotedF s.tail (by omega)]
    simp only [Option.bind_some]
    cases e : quoted s.tail with
    | none => exact ⟨_, rfl, by simp, by simp⟩
    | some p => exact ⟨_, rfl, by rintro v r h; obtain rfl := Option.some.inj h; rfl, by simp⟩
  · have hv : value s = if (tok s).1 = [] then none else some (tok s) := by unfold value; rw [if_neg h]
    rw [if_neg h, hv]
    simp only [Bool.false_eq_true, if_false]
    rw [tokF s k hs hk]
    simp only [Option.bind_some, tl_mk]
    by_cases h2 : (tok s).1 = []
    · rw [if_pos h2, h2]
      exact ⟨_, rfl, by simp, by simp⟩
    · rw [if_neg h2]
      refine ⟨_, rfl, ?_, by simp⟩
      rintro v r h
      have e := Option.some.inj h
      rw [e] at h2 ⊢
      simp at h2
      simp [h2]
theorem tok_len (s : L) : (tok s).1.length + (tok s).2.length = s.length := by
  have := congrArg List.length (tok_parts s).1
  rw [List.length_append] at this
  omega
theorem value_len (s v r : L) (h : value s = some (v, r)) : r.length ≤ s.length := by
  unfold value at h
  split at h
  · obtain ⟨a, ha, _⟩ := quoted_suf _ _ h
    have := congrArg List.length ha
    rw [List.length_append, List.length_tail] at this
    simp at this
    omega
  · split at h
    · simp at h
    · have e := Option.some.inj h
      have := tok_len s
      rw [e] at this
      simp only at this
      omega
/-- What a parser of parameters gives: the list, or nothing. -/
def parsIs (o : Option (List (L × L))) (acc : List (L × L)) (q : List S49 × Bool) : Prop := match o with
  | some l => q = (pairsB (acc ++ l), true)
  | none => q = ([], false)
theorem params_l0 : ∀ (d f k : Nat) (s : L) (acc : List (L × L)), s.length ≤ d → d < f → 3 * d + 10 ≤ k → acc.length + s.length ≤ 1000000000000 →
    ∃ q, media_Text_Params.l0 k (pairsB acc) (mk (skip s)) = some q ∧ parsIs (params f s) acc (q.1, q.2.1) := by
  intro d
  induction d with
  | zero =>
    intro f k s acc hs hf hk ha
    obtain ⟨k, rfl⟩ : ∃ k', k = k' + 1 := ⟨k - 1, by omega⟩
    obtain ⟨f, rfl⟩ : ∃ f', f = f' + 1 := ⟨f - 1, by omega⟩
    obtain rfl : s = [] := List.eq_nil_of_length_eq_zero (by omega)
    rw [media_Text_Params.l0, if_pos (by rw [tl_mk]; rfl)]
    exact ⟨_, rfl, by simp [params, skip, parsIs]⟩
  | succ d ih =>
    intro f k s acc hs hf hk ha
    obtain ⟨k, rfl⟩ : ∃ k', k = k' + 2 := ⟨k - 2, by omega⟩
    obtain ⟨f, rfl⟩ : ∃ f', f = f' + 1 := ⟨f - 1, by omega⟩
    have hsk := skip_len s
    rw [media_Text_Params.l0, params, tl_mk]
    by_cases h0 : skip s = []
    · rw [if_pos h0, if_pos h0]
      exact ⟨_, rfl, by simp [parsIs]⟩
    rw [if_neg h0, if_neg h0, show (⟨#[59]⟩ : ByteArray) = mk [59] from rfl, take1F]
    simp only [Option.bind_some]
    by_cases h1 : (skip s).head? = some 59
    · rw [if_pos h1, if_neg (show ¬ ((skip s).head? ≠ some 59) by simpa using h1)]
      simp only [if_true]
      unfold media_Text_Skip.f
      rw [skipF]
      simp only [Option.bind_some]
      have l1 : (skip s).tail.length + 1 = (skip s).length := by
        cases e : skip s with
        | nil => exact absurd e h0
        | cons x r => simp
      have l2 := skip_len (skip s).tail
      rw [tokF (skip (skip s).tail) (k + 1) (by omega) (by omega)]
      simp only [Option.bind_some, tl_mk]
      have l3 := tok_len (skip (skip s).tail)
      generalize tok (skip (skip s).tail) = nt at *
      obtain ⟨n, t⟩ := nt
      simp only at l3 ⊢
      by_cases h2 : n = []
      · rw [if_pos h2, if_pos h2, media_Text_Params.j1, if_pos rfl]
        exact ⟨_, rfl, by simp [parsIs]⟩
      rw [if_neg h2, if_neg h2, show (⟨#[61]⟩ : ByteArray) = mk [61] from rfl, take1F]
      simp only [Option.bind_some]
      by_cases h3 : t.head? = some 61
      · rw [if_pos h3, if_neg (show ¬ (t.head? ≠ some 61) by simpa using h3)]
        simp only [Bool.not_true]
        rw [media_Text_Params.j1, if_neg (by decide)]
        have l4 : t.tail.length ≤ t.length := by rw [List.length_tail]; omega
        obtain ⟨q, hq, hy, hn⟩ := valueF t.tail k (by omega) (by omega)
        rw [hq]
        simp only [Option.bind_some]
        cases hv : value t.tail with
        | none =>
          rw [hn hv, if_neg (by decide)]
          exact ⟨_, rfl, by simp [parsIs]⟩
        | some p =>
          obtain ⟨v, r⟩ := p
          have hq2 := hy v r hv
          subst hq2
          have l5 := value_len _ _ _ hv
          simp only [if_true]
          rw [lowF n (by omega)]
          simp only [Option.bind_some]
          rw [if_pos (by rw [pairsB_len]; omega)]
          unfold media_Text_Skip.f
          rw [skipF]
          simp only [Option.bind_some]
          obtain ⟨q, hq, hp⟩ := ih f k r (acc ++ [(low n, v)]) (by omega) (by omega) (by omega) (by simp only [List.length_append, List.length_singleton]; omega)
          refine ⟨q, ?_, ?_⟩
          · rw [pairsB_app] at hq
            exact hq
          · unfold parsIs at hp ⊢
            cases e : params f r with
            | none => rw [e] at hp; exact hp
            | some l =>
              rw [e] at hp
              simp only [Option.map_some] at hp ⊢
              rw [hp]
              simp
      · rw [if_neg h3, if_pos (show t.head? ≠ some 61 by simpa using h3)]
        simp only [Bool.not_false]
        rw [media_Text_Params.j1, if_pos rfl]
        exact ⟨_, rfl, by simp [parsIs]⟩
    · rw [if_neg h1, if_pos (show (skip s).head? ≠ some 59 by simpa using h1)]
      exact ⟨_, rfl, by simp [parsIs]⟩
theorem paramsF (s : L) (k : Nat) (hs : s.length ≤ 100000000000) (hk : 3 * s.length + 10 ≤ k) : ∃ q, media_Text_Params.f k (mk s) = some q ∧ parsIs (pars s) [] (q.1, q.2.1) := by
  unfold media_Text_Params.f media_Text_Skip.f
  rw [skipF]
  simp only [Option.bind_some]
  exact params_l0 s.length (s.length + 1) k s [] (Nat.le_refl _) (by omega) hk (by simp; omega)
end Go.Proofs.YteonhdfjfjpbjaaGreatDoor.Sp
/- Opar -/
namespace Go.Proofs.YteonhdfjfjpbjaaGreatDoor.O
open Go.RowKit Go.Proofs.YteonhdfjfjpbjaaGreatDoorW.PrintWords Go.Proofs.YteonhdfjfjpbjaaGreatDoorW.PrintLast Go.Proofs.YteonhdfjfjpbjaaGreatDoorW.PrintMore Go.Proofs.YteonhdfjfjpbjaaGreatDoor.P
set_option linter.unusedVariables false
set_option linter.unusedSimpArgs false
/-- Every block but g stays, and what lies below g stays. -/
structure Far (g : Nat) (W W' : World) : Prop where
  size : W.heap.size ≤ W'.heap.size
  oth : ∀ k, k < W.heap.size → k ≠ g → W'.heap[k]? = W.heap[k]?
  bel : Below g W W'
theorem Far.refl (g : Nat) (W : World) : Far g W W := ⟨Nat.le_refl _, fun _ _ _ => rfl, Below.refl _ _⟩
theorem Far.of {g : Nat} {W W' : World} (h : Below W.heap.size W W') (hg : g ≤ W.heap.size) : Far g W W' := ⟨h.size, fun k hk _ => h.block k hk, h.mono hg⟩
theorem Far.trans {g : Nat} {W W1 W2 : World} (h : Far g W W1) (h' : Far g W1 W2) : Far g W W2 := ⟨Nat.le_trans h.size h'.size, fun k hk hn => (h'.oth k (Nat.lt_of_lt_of_le hk h.size) hn).trans (h.oth k hk hn), h.bel.trans h'.bel⟩
theorem Far.set (g : Nat) (W : World) (i : Nat) (x : Value) : Far g W (W.setCell ⟨g, i, none⟩ x) := ⟨by rw [World.setCell]; simp, fun k _ hn => Below.heap_setCell W _ x k hn, (Below.refl g W).setCell (p := ⟨g, i, none⟩) (Nat.le_refl _) x⟩
theorem Far.drew (g : Nat) (W : World) (m : Nat) : Far g W (W.drewN m) := ⟨Nat.le_refl _, fun _ _ _ => rfl, ⟨rfl, rfl, rfl, Nat.le_refl _, fun _ _ => rfl⟩⟩
theorem Far.drew1 (g : Nat) (W : World) : Far g W W.drew := ⟨Nat.le_refl _, fun _ _ _ => rfl, ⟨rfl, rfl, rfl, Nat.le_refl _, fun _ _ => rfl⟩⟩
/-- The parser's block. -/
def Par (W : World) (g : Nat) (s m t v b : Value) : Prop := W.heap[g]? = some (.cells #[s, m, t, v, b] 76 (0, 0))
def sizedE (s a : ByteArray) : Int := match atoiF a.data.toList with
  | (_, some _) => 190
  | (n, none) => if 9 < a.size then 190 else if Lib.trimS a.data.toList [48, 49, 50, 51, 52, 53, 54, 55, 56, 57] ≠ [] then 190 else if 100000 < n then 2 else if n ≠ s.size then 190 else 0
set_option maxHeartbeats 2000000 in
theorem sized_in (g : Nat) (s a : ByteArray) (m t v b x : Value) (E : Int) (W : World) (hG : Glob W) (ha : a.size ≤ 281474976710656) (hs : s.size < 4294967281) (hP : Par W g (.string s) m t v b) (hE : sizedE s a = E) (hx : x = if E = 0 then .string s else b) :
    Calls Tryz.prog 73 #[.pointer (some ⟨g, 0, none⟩), .string a] W fun e W' => e = .returned (.int .i64 E) ∧ Par W' g (.string s) m t v x ∧ Far g W W' := by
  unfold Par at *
  have hg : Hid (g < W.heap.size) := Lib.hid (blk_lt hP)
  have HA := strconv_Atoi.calls a _ _ W hG (by unfold strconv_Atoi.f; rw [if_pos ha])
  have HT := fun W1 => strings_Trim.calls a ⟨#[48, 49, 50, 51, 52, 53, 54, 55, 56, 57]⟩ _ W1 (by unfold strings_Trim.f; rw [if_pos ⟨by omega, by decide, by decide⟩])
  clear ha
  unfold sizedE at hE
  have hP' := Lib.hid hP
  have hx' := Lib.hid hx
  clear hP hx
  generalize atoiF a.data.toList = p at *
  obtain ⟨n, q⟩ := p
  replace HA := Lib.hid HA
  have hn : Hid (n = n) := Lib.hid rfl
  cases q with
  | some q =>
    simp only at hE
    subst hE
    replace HT := Lib.hid HT
    go_enter Tryz.func73, Tryz.ntmps73
    go_wp2_with (go_at_call 107; refine HA.out.mono ?_; rintro e w1 ⟨pv, he, rfl, hb⟩; obtain ⟨t1, p1, rfl⟩ := ErrIs.some_ he)
    go_ret
    obtain rfl : x = b := by simpa using hx'.out
    exact ⟨rfl, blk_below hP'.out hb, Far.of hb (Nat.le_of_lt hg.out)⟩
  | none =>
    simp only at hE
    by_cases h1 : 9 < a.size
    · rw [if_pos h1] at hE
      subst hE
      replace HT := Lib.hid HT
      have h1' : (9 : Int) < (a.size : Int) := by omega
      clear h1
      go_enter Tryz.func73, Tryz.ntmps73
      go_wp2_with (go_at_call 107; refine HA.out.mono ?_; rintro e w1 ⟨pv, he, rfl, hb⟩; obtain rfl := ErrIs.none_ he)
      go_ret
      obtain rfl : x = b := by simpa using hx'.out
      exact ⟨rfl, blk_below hP'.out hb, Far.of hb (Nat.le_of_lt hg.out)⟩
    · rw [if_neg h1] at hE
      have h1' : ¬ (9 : Int) < (a.size : Int) := by omega
      clear h1
      generalize Lib.trimS a.data.toList [48, 49, 50, 51, 52, 53, 54, 55, 56, 57] = T at *
      replace HT := Lib.hid HT
      by_cases h2 : T = []
      · subst h2
        rw [if_neg zb25] at hE
        by_cases h3 : 100000 < n
        · rw [if_pos h3] at hE
          subst hE
          go_enter Tryz.func73, Tryz.ntmps73
          go_wp2_with (first | (go_at_call 107; refine HA.out.mono ?_; rintro e w1 ⟨pv, he, rfl, hb⟩; obtain rfl := ErrIs.none_ he) | (go_at_call 46; refine (HT.out _).mono ?_; rintro e w2 ⟨rfl, hb2⟩))
          go_ret
          obtain rfl : x = b := by simpa using hx'.out
          have hB := below_step hb hb2
          exact ⟨rfl, blk_below hP'.out hB, Far.of hB (Nat.le_of_lt hg.out)⟩
        · rw [if_neg h3] at hE
          have h3' : ¬ (100000 : Int) < n := h3
          clear h3
          by_cases h4 : n = s.size
          · rw [if_neg (by simpa using h4)] at hE
            subst hE
            have h4' : (n == (s.size : Int)) = true := by simpa using h4
            clear h4
            go_enter Tryz.func73, Tryz.ntmps73
            go_wp2_with (first | (go_at_call 107; refine HA.out.mono ?_; rintro e w1 ⟨pv, he, rfl, hb⟩; obtain rfl := ErrIs.none_ he) | (go_at_call 46; refine (HT.out _).mono ?_; rintro e w2 ⟨rfl, hb2⟩; have hB := Lib.hid (below_step hb hb2); have hP2 := Lib.hid (blk_below hP'.out hB.out); have c0 := (blk_cell hP2.out 0).trans rfl; have c4 : w2.cell? ⟨g, 4, none⟩ = some b := (blk_cell hP2.out 4).trans rfl; have f4 := blk_frozen hP2.out 4))
            go_ret
            obtain rfl : x = .string s := by simpa using hx'.out
            exact ⟨rfl, blk_put hP2.out 4 _ rfl, (Far.of hB.out (Nat.le_of_lt hg.out)).trans (Far.set _ _ _ _)⟩
          · rw [if_pos (by simpa using h4)] at hE
            subst hE
            have h4' : (n == (s.size : Int)) = false := by simpa using h4
            clear h4
            go_enter Tryz.func73, Tryz.ntmps73
            go_wp2_with (first | (go_at_call 107; refine HA.out.mono ?_; rintro e w1 ⟨pv, he, rfl, hb⟩; obtain rfl := ErrIs.none_ he) | (go_at_call 46; refine (HT.out _).mono ?_; rintro e w2 ⟨rfl, hb2⟩; have hB := Lib.hid (below_step hb hb2); have hP2 := Lib.hid (blk_below hP'.out hB.out); have c0 := (blk_cell hP2.out 0).trans rfl; have c4 : w2.cell? ⟨g, 4, none⟩ = some b := (blk_cell hP2.out 4).trans rfl; have f4 := blk_frozen hP2.out 4))
            go_ret
            obtain rfl : x = b := by simpa using hx'.out
            exact ⟨rfl, hP2.out, (Far.of hB.out (Nat.le_of_lt hg.out))⟩
      · rw [if_pos h2] at hE
        subst hE
        have h2' : ¬ (⟨T.toArray⟩ : ByteArray).toList = [] := by rw [Sp.tl]; exact h2
        have h2a : ((⟨T.toArray⟩ : ByteArray).toList == []) = false := by simpa using h2'
        have h2b : ((⟨T.toArray⟩ : ByteArray).toList != []) = true := by simpa using h2'
        generalize (⟨T.toArray⟩ : ByteArray) = u at *
        clear h2
        go_enter Tryz.func73, Tryz.ntmps73
        go_wp2_with (first | (go_at_call 107; refine HA.out.mono ?_; rintro e w1 ⟨pv, he, rfl, hb⟩; obtain rfl := ErrIs.none_ he) | (go_at_call 46; refine (HT.out _).mono ?_; rintro e w2 ⟨rfl, hb2⟩))
        go_ret
        obtain rfl : x = b := by simpa using hx'.out
        have hB := below_step hb hb2
        exact ⟨rfl, blk_below hP'.out hB, Far.of hB (Nat.le_of_lt hg.out)⟩
end Go.Proofs.YteonhdfjfjpbjaaGreatDoor.O
