/- Texts of this seat, joined: lemmas and walks that its statements' proofs use. -/
import Derived.Test.YtaopopnlnohnpaaDoorProg
import Derived.Below
import Derived.Deep.Draws
import Derived.Deep.AppendLies
import Derived.Maps.AppendAt
import Derived.OwnWalk
import Derived.Laws.BytesArg
import Derived.Laws.MakeOwn
import Derived.Laws.OwnMore
import Derived.Deep.OwnRows
import Derived.Tactics
import Derived.Lib.ConvBytes
import Derived.Laws.Slices
import Derived.WalkKit
import Derived.KernelRfl
import Derived.RowKit3
import Derived.Deep.LoopGhost
import Derived.Deep.QuietTactic
import Derived.BigQuiet
import Derived.WideLaws
import Derived.Deep.DeepCutAuto
import Derived.Deep.CutBlock
import Derived.Deep.RegionHeld3
import Derived.Laws.Rows
import Derived.Lib.AppendStr
import Derived.ArgAppend
import Derived.Laws.IdiomCopy
import Derived.OrdersHeld
import Derived.Laws.BitsLemmas
import Derived.RowKit
import Derived.WalkMore
import Derived.Test.YtaopopnlnohnpaaDoorK0
import Derived.Deep.SlicePairs
import Derived.Deep.Slices
import Derived.HandedShaped
import Derived.LaidLaws
import Derived.Laws.Append
import Derived.Laws.AppendOwn
import Derived.Laws.StructEq
import Derived.Lib.AtoiAllCases
import Derived.Lib.Hide
import Derived.Lib.IndexMore
import Derived.Lib.ItoaNum
import Derived.Lib.LaidTab
import Derived.Lib.LaidU8
import Derived.Lib.OthersKept
import Derived.Lib.SlTrimSet
import Derived.Lib.SmallJoins
import Derived.Lib.SplitLaws
import Derived.LoopIn
import Derived.LoopNIn
import Derived.MakeChecks
import Derived.Maps.OwnOps
import Derived.Maps.StringElems
import Derived.Maps.Views
import Derived.OwnWalkIn
import Derived.ProofKit
import Derived.RangeFuncBound
import Derived.RangeFuncCalls
import Derived.RangeFuncLeaves
import Derived.RangeFuncNested
import Derived.Shelf.Abstract
import Derived.Shelf.LaysC
import Derived.Shelf.LaysM
import Derived.Shelf.RegionOpen
import Derived.Shelf.Small.Strs
import Derived.Shelf.Small.Utf8
import Derived.Shelf.Strconv.Atoi
import Derived.Shelf.Strconv.AtoiAll
import Derived.Shelf.Strconv.AtoiErrFast
import Derived.Shelf.Strconv.AtoiFail
import Derived.Shelf.Strconv.AtoiInnerAll
import Derived.Shelf.Strconv.AtoiLong
import Derived.Shelf.Strconv.Clone
import Derived.Shelf.Strconv.ErrVarAll
import Derived.Shelf.Strconv.Itoa0
import Derived.Shelf.Strconv.Itoa1
import Derived.Shelf.Strconv.Itoa2
import Derived.Shelf.Strconv.Itoa3
import Derived.Shelf.Strconv.Lower
import Derived.Shelf.Strconv.ParseInt10
import Derived.Shelf.Strconv.ParseIntEmpty
import Derived.Shelf.Strconv.ParseUint10
import Derived.Shelf.Strconv.ParseUint10Any
import Derived.Shelf.Strconv.ParseUint10Empty
import Derived.Shelf.Strconv.RangeError
import Derived.Shelf.Strconv.SyntaxError
import Derived.Shelf.Strconv.ToError
import Derived.Shelf.Strconv.ToErrorRange
import Derived.Shelf.Strings.AsciiSet
import Derived.Shelf.Strings.Builder1
import Derived.Shelf.Strings.Builder2
import Derived.Shelf.Strings.BuilderF
import Derived.Shelf.Strings.BuilderK
import Derived.Shelf.Strings.Cut
import Derived.Shelf.Strings.OnBuilder
import Derived.Shelf.Strings.Prefix
import Derived.Shelf.Strings.Runes
import Derived.Shelf.Strings.Search1
import Derived.Shelf.Strings.Search2
import Derived.Shelf.Strings.Shaped
import Derived.Shelf.Strings.SlTrimAscii
import Derived.Shelf.Strings.Trim
import Derived.Shelf.Unicode.Decode
import Derived.Shelf.Unicode.DecodeAny
import Derived.Shelf.Unicode.DecodeLast
import Derived.Shelf.Unicode.DecodeSlow
import Derived.SizedLaws
import Derived.TacticsInMore
/- Px0 -/
namespace Go.Proofs.YtaopopnlnohnpaaDoor.P
open Go.Proofs.YtaopopnlnohnpaaDoor.B
open Go.RowKit Go.Proofs.YtaopopnlnohnpaaDoorW.PrintWords Go.Proofs.YtaopopnlnohnpaaDoorW.PrintLast Go.Proofs.YtaopopnlnohnpaaDoorW.PrintMore
attribute [local go_sem] str_leq str_gtr str_geq max2_int min2_int max_two min_two max_three min_three max_four min_four
set_option linter.unusedVariables false
set_option linter.unusedSimpArgs false
def errW : Option Int → Value
  | none => .nilIface
  | some c => .iface 0 (.int .i64 c)
theorem errW_none : errW none = .nilIface := rfl
theorem errW_some (c : Int) : errW (some c) = .iface 0 (.int .i64 c) := rfl
theorem info5 : (Tryd.prog.info? 5).map (fun i => (i.zero, i.size, i.bytes)) = some (some (.int .u8 0), 1, 1) := by kernel_rfl
theorem info9 : (Tryd.prog.info? 9).map (fun i => (i.zero, i.size, i.bytes)) = some (some (.string ⟨#[]⟩), 1, 16) := by kernel_rfl
theorem info35 : (Tryd.prog.info? 35).map (fun i => (i.zero, i.size, i.bytes)) = some (some (.agg #[(.string ⟨#[]⟩), (.string ⟨#[]⟩)]), 2, 32) := by kernel_rfl
-- the values' own types
structure S35 where
  f0 : ByteArray
  f1 : ByteArray
def z35 : S35 := ⟨(⟨#[]⟩ : ByteArray), (⟨#[]⟩ : ByteArray)⟩
def k35 : Kd S35 := Kd.iso (Kd.pair Kd.string Kd.string) (fun x : S35 => (x.f0, x.f1))
theorem k35_open {w : World} {x : S35} {cs : List Value} (h : k35.K w x cs) : cs = [.string x.f0, .string x.f1] := by
  obtain ⟨_, _, rfl, rfl, rfl⟩ := h
  exact rfl
theorem k35_mk (w : World) (x : S35)  : k35.K w x [.string x.f0, .string x.f1] := ⟨[.string x.f0], [.string x.f1], rfl, rfl, rfl⟩
theorem k35_mkM (w : World) (base : Nat) (ok : Nat → Prop) (x : S35)  : k35.M w base ok x [.string x.f0, .string x.f1] := ⟨[.string x.f0], [.string x.f1], rfl, rfl, rfl⟩
def rd_T35 (xs : List S35) (i : Int) : S35 := xs.getD i.toNat z35
theorem at_T35 {w : World} {A : Option Addr} {n : Nat} {xs : List S35} (h : Kd.C k35 w A n xs) (i : Int) (h0 : 0 ≤ i) (h1 : i < n) : ∃ ad , A = some ad ∧ w.cell? (ad.add (i.toNat * 2)) = some (.string (rd_T35 xs i).f0) ∧ w.cell? ⟨(ad.add (i.toNat * 2)).block, (ad.add (i.toNat * 2)).off + 1, none⟩ = some (.string (rd_T35 xs i).f1) := by
  obtain ⟨ad, c, e, _, hK, hc0⟩ := Kd.C_get h z35 i h0 h1
  have hc : ∀ j u, c[j]? = some u → w.cell? (ad.add (i.toNat * 2 + j)) = some u := hc0
  obtain rfl := k35_open hK
  exact ⟨ad, e, hc 0 _ rfl, by rw [← add_field _ _ 1 (by omega)]; exact hc 1 _ rfl⟩
structure S24 where
  f0 : Int
  f1 : (List S35)
  f2 : ByteArray
/-- A strings.Builder at block g that holds f0. -/
def IsS56 (w0 W : World) (g : Nat) (f0 : ByteArray) : Prop := Bld 56 5 w0 W g f0
theorem IsS56.new {w0 W : World} {g : Nat} (hb : W.heap[g]? = some (.cells #[.pointer none, .slice none 0 0] 56 (0, 0))) (hg : w0.heap.size ≤ g) : IsS56 w0 W g ⟨#[]⟩ := .inl ⟨hg, .slice none 0 0, hb, ⟨by simp [Lib.byteCells], .inl ⟨rfl, by simp [Lib.byteCells]⟩⟩, by simp [Value.ownBlock]⟩
theorem IsS56.below {w0 W : World} {g : Nat} {f0 : ByteArray} {W1 : World} (h : IsS56 w0 W g f0) (hw : Below W.heap.size W W1) : IsS56 w0 W1 g f0 := Bld.below h hw
theorem IsS56.grown {w0 W : World} {g : Nat} {f0 : ByteArray} {W1 : World} {row : Option Nat} (h : IsS56 w0 W g f0) (hw : W.grownBy W1 row) (hne : ∀ k, row = some k → k ≠ g ∧ ∀ c fz, W.heap[k]? ≠ some (.cells c 5 fz)) : IsS56 w0 W1 g f0 := Bld.grown h hw hne
theorem IsS56.kept {w0 W : World} {g : Nat} {f0 : ByteArray} {W1 : World} {S : Nat → Prop} (h : IsS56 w0 W g f0) (hk : Kept W W1 S) (hne : ∀ k, S k → k ≠ g ∧ ∀ c fz, W.heap[k]? ≠ some (.cells c 5 fz)) : IsS56 w0 W1 g f0 := Bld.kept h hk.2 hne
theorem IsS56.fresh {w0 W : World} {g : Nat} {f0 : ByteArray} (h : IsS56 w0 W g f0) : ∀ k, W.heap.size ≤ k → k ≠ g := fun k hk e => by have := Bld.lt h; omega
theorem IsS56.alloc {w0 W : World} {g : Nat} {f0 : ByteArray} (h : IsS56 w0 W g f0) (o : Obj) : IsS56 w0 (W.alloc o) g f0 := Bld.below h (below_alloc (Below.refl _ _) o)
theorem IsS56.drewN {w0 W : World} {g : Nat} {f0 : ByteArray} (h : IsS56 w0 W g f0) (m : Nat) : IsS56 w0 (W.drewN m) g f0 := h
theorem IsS56.drew {w0 W : World} {g : Nat} {f0 : ByteArray} (h : IsS56 w0 W g f0) : IsS56 w0 W.drew g f0 := h
theorem IsS56.at_ {w0 W : World} {g : Nat} {f0 : ByteArray} {w' : World} {m : Nat} (hq : W.drewN m = w') (h : IsS56 w0 W g f0) : IsS56 w0 w' g f0 := by subst hq; exact IsS56.drewN h m
theorem IsS56.apart {w0 W : World} {g : Nat} {f0 : ByteArray} {α : Type} {d : Kd α} {e : Nat} {base : Nat} {ok : Nat → Prop} {v : Value} {xs : List α} (h : IsS56 w0 W g f0) (ho : d.R e W base ok v xs) (ht : ∀ q, q ∈ e :: d.E → q ≠ 56) : d.R e W base (fun k => ok k ∧ k ≠ g) v xs := by
  obtain ⟨_, hb⟩ := Bld.blk h
  exact Kd.R_types ho hb ht
theorem IsS56.own_ne {w0 W : World} {g : Nat} {f0 : ByteArray} {α : Type} {d : Kd α} {e : Nat} {base : Nat} {ok : Nat → Prop} {v : Value} {xs : List α} (h : IsS56 w0 W g f0) (ho : d.R e W base ok v xs) (ht : e ≠ 56) : some g ≠ v.ownBlock := by
  obtain ⟨_, hb⟩ := Bld.blk h
  exact Kd.R_ne ho hb ht
theorem IsS56.lt {w0 W : World} {g : Nat} {f0 : ByteArray} (h : IsS56 w0 W g f0) : g < W.heap.size := Bld.lt h
theorem IsS56.ge {w0 W : World} {g : Nat} {f0 : ByteArray} (h : IsS56 w0 W g f0) : w0.heap.size ≤ g := Bld.ge h
theorem IsS56.farB {w0 W : World} {g : Nat} {f0 : ByteArray} {p : Addr} (h : IsS56 w0 W g f0) (hne : g ≠ p.block) {t : Nat} (ht : ∃ c fz, W.heap[p.block]? = some (.cells c t fz)) (hte : t ≠ 5) (u : Value) : IsS56 w0 (W.setCell p u) g f0 := Bld.farB h hne ht hte u
/-- A state of type 72 at block g of W; what its slices lead to came in by w0. -/
def IsS72 (w0 W : World) (g : Nat) (f0 : ByteArray) : Prop := W.heap[g]? = some (.cells #[.string f0] 72 (0, 0)) ∧ w0.heap.size ≤ g
theorem IsS72.grown {w0 W : World} {g : Nat} {f0 : ByteArray} {W1 : World} {row : Option Nat} (h : IsS72 w0 W g f0) (hw : W.grownBy W1 row) (hne : some g ≠ row) : IsS72 w0 W1 g f0 := by
  obtain ⟨hb, hg⟩ := h
  exact ⟨blk_grown hb hw hne, hg⟩
theorem IsS72.fresh {w0 W : World} {g : Nat} {f0 : ByteArray} (h : IsS72 w0 W g f0) : ∀ k, W.heap.size ≤ k → k ≠ g := by
  obtain ⟨hb, hg⟩ := h
  exact Kd.freshB hb
theorem IsS72.kept {w0 W : World} {g : Nat} {f0 : ByteArray} {W1 : World} {S : Nat → Prop} (h : IsS72 w0 W g f0) (hk : Kept W W1 S) (hne : ¬ S g) : IsS72 w0 W1 g f0 := by
  obtain ⟨hb, hg⟩ := h
  exact ⟨blk_kept hb hk hne, hg⟩
theorem IsS72.below {w0 W : World} {g : Nat} {f0 : ByteArray} {W1 : World} (h : IsS72 w0 W g f0) (hw : Below W.heap.size W W1) : IsS72 w0 W1 g f0 := h.grown (grown_of_below hw none) (by simp)
theorem IsS72.alloc {w0 W : World} {g : Nat} {f0 : ByteArray} (h : IsS72 w0 W g f0) (o : Obj) : IsS72 w0 (W.alloc o) g f0 := h.below (below_alloc (Below.refl _ _) o)
theorem IsS72.drewN {w0 W : World} {g : Nat} {f0 : ByteArray} (h : IsS72 w0 W g f0) (m : Nat) : IsS72 w0 (W.drewN m) g f0 := h
theorem IsS72.drew {w0 W : World} {g : Nat} {f0 : ByteArray} (h : IsS72 w0 W g f0) : IsS72 w0 W.drew g f0 := h
theorem IsS72.at_ {w0 W : World} {g : Nat} {f0 : ByteArray} {w' : World} {m : Nat} (hq : W.drewN m = w') (h : IsS72 w0 W g f0) : IsS72 w0 w' g f0 := by subst hq; exact IsS72.drewN h m
theorem IsS72.apart {w0 W : World} {g : Nat} {f0 : ByteArray} {α : Type} {d : Kd α} {e : Nat} {base : Nat} {ok : Nat → Prop} {v : Value} {xs : List α} (h : IsS72 w0 W g f0) (ho : d.R e W base ok v xs) (ht : ∀ q, q ∈ e :: d.E → q ≠ 72) : d.R e W base (fun k => ok k ∧ k ≠ g) v xs := by
  obtain ⟨hb, hg⟩ := h
  exact Kd.R_types ho hb ht
theorem IsS72.own_ne {w0 W : World} {g : Nat} {f0 : ByteArray} {α : Type} {d : Kd α} {e : Nat} {base : Nat} {ok : Nat → Prop} {v : Value} {xs : List α} (h : IsS72 w0 W g f0) (ho : d.R e W base ok v xs) (ht : e ≠ 72) : some g ≠ v.ownBlock := by
  obtain ⟨hb, hg⟩ := h
  exact Kd.R_ne ho hb ht
theorem IsS72.lt {w0 W : World} {g : Nat} {f0 : ByteArray} (h : IsS72 w0 W g f0) : g < W.heap.size := by
  obtain ⟨hb, hg⟩ := h
  exact blk_lt hb
theorem IsS72.ge {w0 W : World} {g : Nat} {f0 : ByteArray} (h : IsS72 w0 W g f0) : w0.heap.size ≤ g := by
  obtain ⟨hb, hg⟩ := h
  exact hg
theorem IsS72.far {w0 W : World} {g : Nat} {f0 : ByteArray} {p : Addr} (h : IsS72 w0 W g f0) (hne : g ≠ p.block) (u : Value) : IsS72 w0 (W.setCell p u) g f0 := by
  obtain ⟨hb, hg⟩ := h
  exact ⟨blk_far hb hne u, hg⟩
theorem cellS72_0 {W : World} {g : Nat} {f0 : ByteArray} (h : W.heap[g]? = some (.cells #[.string f0] 72 (0, 0))) : W.cell? ⟨g, 0, none⟩ = some (.string f0) := (blk_cell h 0).trans rfl
theorem IsS72.set_0 {w0 W : World} {g : Nat} {f0 : ByteArray} (h : IsS72 w0 W g f0) (x : ByteArray) : IsS72 w0 (W.setCell ⟨g, 0, none⟩ (.string x)) g x := by
  obtain ⟨hb, hg⟩ := h
  exact ⟨by simpa using blk_set hb 0 (.string x), hg⟩
theorem IsS72.new (w0 W : World) (f0 : ByteArray) (hB : Below w0.heap.size w0 W) : IsS72 w0 (W.alloc (.cells #[.string f0] 72)) W.heap.size f0 := ⟨by simpa using heap_alloc_new W _, hB.size⟩
end Go.Proofs.YtaopopnlnohnpaaDoor.P
/- Ab -/
namespace Go.Proofs.YtaopopnlnohnpaaDoor
theorem zb0 {P : Prop} (h : P := by repeat (first | (with_reducible first | exact HB.out | apply below_alloc | apply pw_below_drewN | apply below_drew1) | exact HB.out)) : P := h
theorem zb1 {P : Prop} (h : P := by (try simp only [List.map_toArray, List.map_cons, List.map_nil]); first | done | rfl | (simp only [List.length_drop, List.length_take]; rfl)) : P := h
theorem zb2 {P : Prop} (h : P := by intro h_; simp only [ByteArray.size_append, ByteArray.size_extract, eq_iff_iff, iff_true, iff_false, decide_eq_true_eq] at *; omega) : P := h
theorem zb3 {P : Prop} (h : P := by repeat (first | (with_reducible first | exact HB.out | apply below_alloc | apply pw_below_drewN | apply below_drew1 | refine below_set ?_ GE154.out) | exact HB.out)) : P := h
theorem zb4 {P : Prop} (h : P := by (with_reducible repeat (first | refine blk_drewN ?_ _ | refine blk_drew ?_ | refine blk_alloc ?_ _)); exact BK154.out) : P := h
theorem zb5 {P : Prop} (h : P := by repeat (first | (with_reducible first | exact HB.out | apply below_alloc | apply pw_below_drewN | apply below_drew1 | refine below_set ?_ GE154.out | refine below_set ?_ GE164.out) | exact HB.out)) : P := h
theorem zb6 {P : Prop} (h : P := by (with_reducible repeat (first | refine blk_drewN ?_ _ | refine blk_drew ?_ | refine blk_alloc ?_ _)); refine blk_put (cs := #[.int .i64 0, .slice none 0 0, .string (⟨#[]⟩ : ByteArray)]) ?_ 2 _ rfl; (with_reducible repeat (first | refine blk_drewN ?_ _ | refine blk_drew ?_ | refine blk_alloc ?_ _)); refine blk_put (cs := #[.int .i64 0, .slice none 0 0, .string (⟨#[]⟩ : ByteArray)]) ?_ 1 _ rfl; (with_reducible repeat (first | refine blk_drewN ?_ _ | refine blk_drew ?_ | refine blk_alloc ?_ _)); refine blk_put (cs := #[.int .i64 0, .slice none 0 0, .string (⟨#[]⟩ : ByteArray)]) ?_ 0 _ rfl; (with_reducible repeat (first | refine blk_drewN ?_ _ | refine blk_drew ?_ | refine blk_alloc ?_ _)); exact BK154.out) : P := h
theorem zb7 {P : Prop} (h : P := by repeat (first | (with_reducible first | exact HB.out | apply below_alloc | apply pw_below_drewN | apply below_drew1 | refine below_set ?_ GE196.out) | exact HB.out)) : P := h
theorem zb8 {P : Prop} (h : P := by first | rfl | (simp [errW_none, errW_some, bne_nil_] <;> rfl) | (simp [*, errW_none, errW_some] <;> rfl)) : P := h
theorem zb9 {P : Prop} (h : P := by repeat (first | (with_reducible first | exact HB.out | apply below_alloc | apply pw_below_drewN | apply below_drew1 | refine below_set ?_ GE146.out) | exact HB.out)) : P := h
theorem zb10 {P : Prop} (h : P := by repeat (first | (with_reducible first | exact HB.out | apply below_alloc | apply pw_below_drewN | apply below_drew1 | refine below_set ?_ GE135.out) | exact HB.out)) : P := h
theorem zb11 {P : Prop} (h : P := by kernel_rfl) : P := h
theorem zb12 {P : Prop} (h : P := by first | (with_reducible assumption) | assumption) : P := h
theorem zb13 {P : Prop} (h : P := by (with_reducible repeat (first | apply Kd.R_alloc | apply Kd.R_drewN | apply Kd.R_drew)); exact HO163.out) : P := h
theorem zb14 {P : Prop} (h : P := by repeat (first | (with_reducible first | exact HB.out | apply below_alloc | apply pw_below_drewN | apply below_drew1 | refine below_set ?_ (IsS56.ge HI118.out)) | exact HB.out)) : P := h
theorem zb15 {P : Prop} (h : P := by (with_reducible repeat (first | refine blk_drewN ?_ _ | refine blk_drew ?_ | refine blk_alloc ?_ _)); exact BK196.out) : P := h
theorem zb16 {P : Prop} (h : P := by (with_reducible repeat (first | refine blk_drewN ?_ _ | refine blk_drew ?_ | refine blk_alloc ?_ _)); exact BK146.out) : P := h
theorem zb17 {P : Prop} (h : P := by repeat (first | (with_reducible first | exact HB.out | apply below_alloc | apply pw_below_drewN | apply below_drew1 | refine below_set ?_ (IsS56.ge HI118.out) | refine below_set ?_ GE120.out) | exact HB.out)) : P := h
theorem zb18 {P : Prop} (h : P := by (with_reducible repeat (first | refine blk_drewN ?_ _ | refine blk_drew ?_ | refine blk_alloc ?_ _)); exact BK164.out) : P := h
theorem zb19 {P : Prop} (h : P := by first | rfl | (simp; done) | (simp [*]; done)) : P := h
theorem zb20 {P : Prop} (h : P := by (with_reducible repeat (first | refine blk_drewN ?_ _ | refine blk_drew ?_ | refine blk_alloc ?_ _)); refine blk_far ?_ NB154_164.out _; (with_reducible repeat (first | refine blk_drewN ?_ _ | refine blk_drew ?_ | refine blk_alloc ?_ _)); refine blk_far ?_ NB154_164.out _; (with_reducible repeat (first | refine blk_drewN ?_ _ | refine blk_drew ?_ | refine blk_alloc ?_ _)); refine blk_far ?_ NB154_164.out _; (with_reducible repeat (first | refine blk_drewN ?_ _ | refine blk_drew ?_ | refine blk_alloc ?_ _)); exact BK154.out) : P := h
theorem zb21 {P : Prop} (h : P := by (with_reducible repeat (first | refine blk_drewN ?_ _ | refine blk_drew ?_ | refine blk_alloc ?_ _)); refine blk_put (cs := #[.string ((rd_T35 l0 x9_1).f0), .string (⟨#[]⟩ : ByteArray)]) ?_ 1 _ rfl; (with_reducible repeat (first | refine blk_drewN ?_ _ | refine blk_drew ?_ | refine blk_alloc ?_ _)); refine blk_put (cs := #[.string (⟨#[]⟩ : ByteArray), .string (⟨#[]⟩ : ByteArray)]) ?_ 0 _ rfl; (with_reducible repeat (first | refine blk_drewN ?_ _ | refine blk_drew ?_ | refine blk_alloc ?_ _)); exact BK120.out) : P := h
theorem zb22 {P : Prop} (h : P := by (with_reducible repeat (first | refine blk_drewN ?_ _ | refine blk_drew ?_ | refine blk_alloc ?_ _)); refine blk_put (cs := #[.string t151, .string (⟨#[]⟩ : ByteArray)]) ?_ 1 _ rfl; (with_reducible repeat (first | refine blk_drewN ?_ _ | refine blk_drew ?_ | refine blk_alloc ?_ _)); refine blk_put (cs := #[.string (⟨#[]⟩ : ByteArray), .string (⟨#[]⟩ : ByteArray)]) ?_ 0 _ rfl; (with_reducible repeat (first | refine blk_drewN ?_ _ | refine blk_drew ?_ | refine blk_alloc ?_ _)); exact BK146.out) : P := h
theorem zb23 {P : Prop} (h : P := by repeat (first | (with_reducible first | exact HB.out | apply below_alloc | apply pw_below_drewN | apply below_drew1 | refine below_set ?_ GE106.out) | exact HB.out)) : P := h
theorem zb24 {P : Prop} (h : P := by (with_reducible repeat (first | refine blk_drewN ?_ _ | refine blk_drew ?_ | refine blk_alloc ?_ _)); exact BK135.out) : P := h
theorem zb25 {P : Prop} (h : P := by repeat (first | exact ⟨_, _, BK120.out⟩ | apply typ_set | apply typ_alloc | apply typ_drewN | apply typ_drew)) : P := h
theorem zb26 {P : Prop} (h : P := by omega) : P := h
theorem zb27 {P : Prop} (h : P := by (with_reducible repeat (first | refine blk_drewN ?_ _ | refine blk_drew ?_ | refine blk_alloc ?_ _)); refine blk_put (cs := #[.string ((rd_T35 l0 x12_1).f0), .string (⟨#[]⟩ : ByteArray)]) ?_ 1 _ rfl; (with_reducible repeat (first | refine blk_drewN ?_ _ | refine blk_drew ?_ | refine blk_alloc ?_ _)); refine blk_put (cs := #[.string (⟨#[]⟩ : ByteArray), .string (⟨#[]⟩ : ByteArray)]) ?_ 0 _ rfl; (with_reducible repeat (first | refine blk_drewN ?_ _ | refine blk_drew ?_ | refine blk_alloc ?_ _)); exact BK106.out) : P := h
theorem zb28 {P : Prop} (h : P := by (with_reducible repeat (first | apply Kd.R_alloc | apply Kd.R_drewN | apply Kd.R_drew)); exact HO_6.out) : P := h
theorem zb29 {P : Prop} (h : P := by (with_reducible repeat (first | apply Kd.R_alloc | apply Kd.R_drewN | apply Kd.R_drew)); exact (Kd.R_mono (Kd.R_far (p := ⟨gb164, 2, none⟩) (Kd.R_far (p := ⟨gb164, 1, none⟩) (Kd.R_far (p := ⟨gb164, 0, none⟩) (Kd.R_types HO163.out BK164.out (by decide)) (fun _ hk => hk.2) (.int .i64 t158)) (fun _ hk => hk.2) (.slice Ao34 t159.length co34)) (fun _ hk => hk.2) (.string t160)) (fun _ h_ => h_.1))) : P := h
theorem zb30 {P : Prop} (h : P := by (with_reducible repeat (first | apply Kd.R_alloc | apply Kd.R_drewN | apply Kd.R_drew)); exact (Kd.R_mono (Kd.R_far (p := ⟨gb164, 2, none⟩) (Kd.R_far (p := ⟨gb164, 1, none⟩) (Kd.R_far (p := ⟨gb164, 0, none⟩) (Kd.R_types HO163.out BK164.out (by decide)) (fun _ hk => hk.2) (.int .i64 t158)) (fun _ hk => hk.2) (.slice Ao26 t159.length co26)) (fun _ hk => hk.2) (.string t160)) (fun _ h_ => h_.1))) : P := h
theorem zb31 {P : Prop} (h : P := by (with_reducible repeat (first | apply Kd.R_alloc | apply Kd.R_drewN | apply Kd.R_drew)); exact (Kd.R_mono (Kd.R_far (p := ⟨gb164, 2, none⟩) (Kd.R_far (p := ⟨gb164, 1, none⟩) (Kd.R_far (p := ⟨gb164, 0, none⟩) (Kd.R_types HO163.out BK164.out (by decide)) (fun _ hk => hk.2) (.int .i64 t158)) (fun _ hk => hk.2) (.slice Ao18 t159.length co18)) (fun _ hk => hk.2) (.string t160)) (fun _ h_ => h_.1))) : P := h
theorem zb32 {P : Prop} (h : P := by decide) : P := h
theorem zb33 {P : Prop} (h : P := by (with_reducible repeat (first | apply Kd.R_alloc | apply Kd.R_drewN | apply Kd.R_drew)); exact (Kd.R_mono (Kd.R_far (p := ⟨gb106, 1, none⟩) (Kd.R_far (p := ⟨gb106, 0, none⟩) (Kd.R_types HO_6.out BK106.out zb32) (fun _ hk => hk.2) (.string ((rd_T35 l0 x12_1).f0))) (fun _ hk => hk.2) (.string ((rd_T35 l0 x12_1).f1))) (fun _ h_ => h_.1))) : P := h
theorem zb34 {P : Prop} (h : P := by repeat (first | (with_reducible first | exact HB.out | apply below_alloc | apply pw_below_drewN | apply below_drew1 | refine below_set ?_ GE181.out) | exact HB.out)) : P := h
theorem zb35 {P : Prop} (h : P := by repeat (first | (with_reducible first | exact HI118.out | apply IsS56.alloc | apply IsS56.drewN | apply IsS56.drew) | exact HI118.out)) : P := h
theorem zb36 {P : Prop} (h : P := by (with_reducible repeat (first | refine blk_drewN ?_ _ | refine blk_drew ?_ | refine blk_alloc ?_ _)); exact BK120.out) : P := h
theorem zb37 {P : Prop} (h : P := by (with_reducible repeat (first | refine blk_drewN ?_ _ | refine blk_drew ?_ | refine blk_alloc ?_ _)); exact BK106.out) : P := h
end Go.Proofs.YtaopopnlnohnpaaDoor
/- Px1 -/
namespace Go.Proofs.YtaopopnlnohnpaaDoor.P
open Go.Proofs.YtaopopnlnohnpaaDoor.B
open Go.RowKit Go.Proofs.YtaopopnlnohnpaaDoorW.PrintWords Go.Proofs.YtaopopnlnohnpaaDoorW.PrintLast Go.Proofs.YtaopopnlnohnpaaDoorW.PrintMore
attribute [local go_sem] str_leq str_gtr str_geq max2_int min2_int max_two min_two max_three min_three max_four min_four
set_option linter.unusedVariables false
set_option linter.unusedSimpArgs false
theorem eqA35 (d : Nat) (w : World) (x0 y0 : ByteArray) (x1 y1 : ByteArray) :
    (Op.equalIn (d + 2) 35 (.agg #[.string x0, .string x1]) (.agg #[.string y0, .string y1])).run Tryd.prog w = .ok (x0.toList == y0.toList && (x1.toList == y1.toList)) w := by
  refine eqA_of Tryd.underlying35 zb11 ?_
  refine eqf_cons (by rfl) (by go_simp; rfl) (by go_simp; rfl) (by go_simp) ?_
  exact eqf_last (by rfl) (by go_simp; rfl) (by go_simp; rfl) (by go_simp)
def response_bare.f (a0 : Int) : Option (Bool) := if a0 = 204 then (some true) else (some (a0 == 304))
set_option maxHeartbeats 8000000 in
set_option maxRecDepth 100000 in
theorem response_bare.calls (a0 : Int) (r : Bool) (w : World) (h : response_bare.f a0 = some r) :
  Calls Tryd.prog 12 #[.int .i64 a0] w fun e w' => e = .returned (.bool r) ∧ Drawn0 w w' := by
 have H : (if a0 = 204 then (some true) else (some (a0 == 304))) = some r := h
 clear h
 by_cases c2 : a0 = 204
 ·rw [if_pos c2] at H
  have c2b0 : (a0 == 204) = true := beq_iff_eq.mpr c2
  have c2b1 : (a0 != 204) = false := bne_eq_false_iff_eq.mpr c2
  clear c2
  obtain rfl := Option.some.inj H
  go_enter Tryd.func12, Tryd.ntmps12
  go_wp2
  go_ret
  exact ⟨by first | rfl | (simp; done) | (simp [*]; done), by repeat (first | exact Drawn0.refl _ | apply Drawn0.step)⟩
 ·rw [if_neg c2] at H
  have c2b0 : (a0 == 204) = false := beq_eq_false_iff_ne.mpr c2
  have c2b1 : (a0 != 204) = true := bne_iff_ne.mpr c2
  obtain rfl := Option.some.inj H
  go_enter Tryd.func12, Tryd.ntmps12
  go_wp2
  go_ret
  exact ⟨by first | rfl | (simp; done) | (simp [*]; done), by repeat (first | exact Drawn0.refl _ | apply Drawn0.step)⟩
end Go.Proofs.YtaopopnlnohnpaaDoor.P
/- Shelf -/
namespace Go.Proofs
open Go.Shelf
def Tryd.lays170_ren : Go.Shelf.Ren := ⟨fun | 170 => 27 | n => n, fun | 70 => 54 | 3 => 3 | 0 => 0 | 72 => 56 | 37 => 50 | 5 => 5 | n => n, fun | n => n⟩
theorem Tryd.lays170 : Go.Proofs.Lays.n170 Tryd.prog Tryd.lays170_ren := {
  mixed := by kernel_rfl
  f170 := Tryd.func27.trans (congrArg some (by kernel_rfl))
  t0 := Tryd.underlying0
  a0 := Tryd.isAgg0
  z0 := Tryd.sizeOf0
  v0 := Tryd.zeroValue0
  t3 := Tryd.underlying3
  a3 := Tryd.isAgg3
  z3 := Tryd.sizeOf3
  v3 := Tryd.zeroValue3
  t37 := Tryd.underlying50
  a37 := Tryd.isAgg50
  z37 := Tryd.sizeOf50
  v37 := Tryd.zeroValue50
  t70 := Tryd.underlying54
  a70 := Tryd.isAgg54
  z70 := Tryd.sizeOf54
  v70 := Tryd.zeroValue54
  t72 := Tryd.underlying56
  a72 := Tryd.isAgg56
  z72 := Tryd.sizeOf56
  v72 := Tryd.zeroValue56 }
def Tryd.lays169_ren : Go.Shelf.Ren := ⟨fun | 169 => 28 | n => n, fun | 70 => 54 | 9 => 9 | 0 => 0 | 72 => 56 | 37 => 50 | 127 => 73 | 3 => 3 | 5 => 5 | n => n, fun | n => n⟩
theorem Tryd.lays169 : Go.Proofs.Lays.n169 Tryd.prog Tryd.lays169_ren := {
  mixed := by kernel_rfl
  f169 := Tryd.func28.trans (congrArg some (by kernel_rfl))
  t0 := Tryd.underlying0
  a0 := Tryd.isAgg0
  z0 := Tryd.sizeOf0
  v0 := Tryd.zeroValue0
  t3 := Tryd.underlying3
  a3 := Tryd.isAgg3
  z3 := Tryd.sizeOf3
  v3 := Tryd.zeroValue3
  t9 := Tryd.underlying9
  a9 := Tryd.isAgg9
  z9 := Tryd.sizeOf9
  v9 := Tryd.zeroValue9
  t37 := Tryd.underlying50
  a37 := Tryd.isAgg50
  z37 := Tryd.sizeOf50
  v37 := Tryd.zeroValue50
  t70 := Tryd.underlying54
  a70 := Tryd.isAgg54
  z70 := Tryd.sizeOf54
  v70 := Tryd.zeroValue54
  t72 := Tryd.underlying56
  a72 := Tryd.isAgg56
  z72 := Tryd.sizeOf56
  v72 := Tryd.zeroValue56
  t127 := Tryd.underlying73
  a127 := Tryd.isAgg73
  z127 := Tryd.sizeOf73
  v127 := Tryd.zeroValue73 }
theorem Tryd.Builder_Extra_169 : Builder.Extra Tryd.prog Tryd.lays169_ren := {
  sizeBuilder := by kernel_rfl
  liesBuilder := by kernel_rfl
  t5 := Tryd.underlying5
  a5 := Tryd.isAgg5
  z5 := Tryd.sizeOf5
  v5 := Tryd.zeroValue5
  infoByte := by kernel_rfl
  cellsByte := by kernel_rfl
  sizeByte := by kernel_rfl
  neB5 := by decide }
def Tryd.lays156_ren : Go.Shelf.Ren := ⟨fun | 156 => 35 | 165 => 45 | 166 => 26 | 169 => 28 | 240 => 39 | 241 => 69 | 276 => 58 | 277 => 84 | n => n, fun | 31 => 69 | 9 => 9 | 3 => 3 | 4 => 4 | 0 => 0 | 20 => 20 | 72 => 56 | 76 => 59 | 70 => 54 | 37 => 50 | 75 => 58 | 127 => 73 | 164 => 93 | 5 => 5 | 80 => 62 | n => n, fun | n => n⟩
theorem Tryd.lays156 : Go.Proofs.Lays.n156 Tryd.prog Tryd.lays156_ren := {
  mixed := by kernel_rfl
  f156 := Tryd.func35.trans (congrArg some (by kernel_rfl))
  f165 := Tryd.func45.trans (congrArg some (by kernel_rfl))
  f166 := Tryd.func26.trans (congrArg some (by kernel_rfl))
  f169 := Tryd.func28.trans (congrArg some (by kernel_rfl))
  f240 := Tryd.func39.trans (congrArg some (by kernel_rfl))
  f241 := Tryd.func69.trans (congrArg some (by kernel_rfl))
  f276 := Tryd.func58.trans (congrArg some (by kernel_rfl))
  f277 := Tryd.func84.trans (congrArg some (by kernel_rfl))
  t0 := Tryd.underlying0
  a0 := Tryd.isAgg0
  z0 := Tryd.sizeOf0
  v0 := Tryd.zeroValue0
  t3 := Tryd.underlying3
  a3 := Tryd.isAgg3
  z3 := Tryd.sizeOf3
  v3 := Tryd.zeroValue3
  t4 := Tryd.underlying4
  a4 := Tryd.isAgg4
  z4 := Tryd.sizeOf4
  v4 := Tryd.zeroValue4
  t9 := Tryd.underlying9
  a9 := Tryd.isAgg9
  z9 := Tryd.sizeOf9
  v9 := Tryd.zeroValue9
  t20 := Tryd.underlying20
  a20 := Tryd.isAgg20
  z20 := Tryd.sizeOf20
  v20 := Tryd.zeroValue20
  t31 := Tryd.underlying69
  a31 := Tryd.isAgg69
  z31 := Tryd.sizeOf69
  v31 := Tryd.zeroValue69
  t37 := Tryd.underlying50
  a37 := Tryd.isAgg50
  z37 := Tryd.sizeOf50
  v37 := Tryd.zeroValue50
  t70 := Tryd.underlying54
  a70 := Tryd.isAgg54
  z70 := Tryd.sizeOf54
  v70 := Tryd.zeroValue54
  t72 := Tryd.underlying56
  a72 := Tryd.isAgg56
  z72 := Tryd.sizeOf56
  v72 := Tryd.zeroValue56
  t75 := Tryd.underlying58
  a75 := Tryd.isAgg58
  z75 := Tryd.sizeOf58
  v75 := Tryd.zeroValue58
  t76 := Tryd.underlying59
  a76 := Tryd.isAgg59
  z76 := Tryd.sizeOf59
  v76 := Tryd.zeroValue59
  t127 := Tryd.underlying73
  a127 := Tryd.isAgg73
  z127 := Tryd.sizeOf73
  v127 := Tryd.zeroValue73
  t164 := Tryd.underlying93
  a164 := Tryd.isAgg93
  z164 := Tryd.sizeOf93
  v164 := Tryd.zeroValue93 }
theorem Tryd.Builder_Extra_156 : Builder.Extra Tryd.prog Tryd.lays156_ren := {
  sizeBuilder := by kernel_rfl
  liesBuilder := by kernel_rfl
  t5 := Tryd.underlying5
  a5 := Tryd.isAgg5
  z5 := Tryd.sizeOf5
  v5 := Tryd.zeroValue5
  infoByte := by kernel_rfl
  cellsByte := by kernel_rfl
  sizeByte := by kernel_rfl
  neB5 := by decide }
open Go.RowKit in
theorem Tryd.strings_Join_none (a : Option Addr) (c : Nat) (sep : ByteArray) (w : World) :
    Calls Tryd.prog 35 #[.slice a 0 c, .string sep] w fun e w' => e = .returned (.string ⟨#[]⟩) ∧ w' = w := Any.strings_Join_none Tryd.lays156 Tryd.Builder_Extra_156 a c sep w
open Go.RowKit in
theorem Tryd.strings_Join (bk o c : Nat) (xs : List ByteArray) (sep : ByteArray) (w : World) (hcells : ∀ (j : Nat) x, xs[j]? = some x → w.cell? ⟨bk, o + j, none⟩ = some (.string x)) (hbk : bk < w.heap.size) (hN : xs.length ≤ 140737488355328) (hcap : xs.length ≤ c) (hlen : (Lib.join (xs.map (·.data.toList)) sep.data.toList).length ≤ 140737488355328) :
    Calls Tryd.prog 35 #[.slice (some ⟨bk, o, none⟩) xs.length c, .string sep] w fun e w' => e = .returned (.string ⟨(Lib.join (xs.map (·.data.toList)) sep.data.toList).toArray⟩) ∧ Below w.heap.size w w' := Any.strings_Join Tryd.lays156 Tryd.Builder_Extra_156 bk o c xs sep w hcells hbk hN hcap hlen
def Tryd.lays160_ren : Go.Shelf.Ren := ⟨fun | 160 => 38 | 232 => 52 | 231 => 51 | 227 => 53 | 234 => 55 | 233 => 54 | 236 => 57 | 235 => 56 | 228 => 75 | 271 => 78 | 151 => 77 | 197 => 76 | 120 => 89 | 152 => 88 | 260 => 87 | 137 => 50 | 119 => 92 | 224 => 61 | 225 => 60 | 217 => 59 | 266 => 79 | n => n, fun | 9 => 9 | 4 => 4 | 3 => 3 | 5 => 5 | 117 => 89 | 116 => 88 | 0 => 0 | 124 => 92 | 21 => 21 | 105 => 109 | 46 => 96 | 119 => 128 | 139 => 131 | 138 => 130 | n => n, fun | 3 => 6 | 4 => 7 | n => n⟩
theorem Tryd.lays160 : Go.Proofs.Lays.n160 Tryd.prog Tryd.lays160_ren := {
  mixed := by kernel_rfl
  f119 := Tryd.func92.trans (congrArg some (by kernel_rfl))
  f120 := Tryd.func89.trans (congrArg some (by kernel_rfl))
  f137 := Tryd.func50.trans (congrArg some (by kernel_rfl))
  f151 := Tryd.func77.trans (congrArg some (by kernel_rfl))
  f152 := Tryd.func88.trans (congrArg some (by kernel_rfl))
  f160 := Tryd.func38.trans (congrArg some (by kernel_rfl))
  f197 := Tryd.func76.trans (congrArg some (by kernel_rfl))
  f217 := Tryd.func59.trans (congrArg some (by kernel_rfl))
  f224 := Tryd.func61.trans (congrArg some (by kernel_rfl))
  f225 := Tryd.func60.trans (congrArg some (by kernel_rfl))
  f227 := Tryd.func53.trans (congrArg some (by kernel_rfl))
  f228 := Tryd.func75.trans (congrArg some (by kernel_rfl))
  f231 := Tryd.func51.trans (congrArg some (by kernel_rfl))
  f232 := Tryd.func52.trans (congrArg some (by kernel_rfl))
  f233 := Tryd.func54.trans (congrArg some (by kernel_rfl))
  f234 := Tryd.func55.trans (congrArg some (by kernel_rfl))
  f235 := Tryd.func56.trans (congrArg some (by kernel_rfl))
  f236 := Tryd.func57.trans (congrArg some (by kernel_rfl))
  f260 := Tryd.func87.trans (congrArg some (by kernel_rfl))
  f266 := Tryd.func79.trans (congrArg some (by kernel_rfl))
  f271 := Tryd.func78.trans (congrArg some (by kernel_rfl))
  t0 := Tryd.underlying0
  a0 := Tryd.isAgg0
  z0 := Tryd.sizeOf0
  v0 := Tryd.zeroValue0
  t3 := Tryd.underlying3
  a3 := Tryd.isAgg3
  z3 := Tryd.sizeOf3
  v3 := Tryd.zeroValue3
  t4 := Tryd.underlying4
  a4 := Tryd.isAgg4
  z4 := Tryd.sizeOf4
  v4 := Tryd.zeroValue4
  t5 := Tryd.underlying5
  a5 := Tryd.isAgg5
  z5 := Tryd.sizeOf5
  v5 := Tryd.zeroValue5
  t9 := Tryd.underlying9
  a9 := Tryd.isAgg9
  z9 := Tryd.sizeOf9
  v9 := Tryd.zeroValue9
  t21 := Tryd.underlying21
  a21 := Tryd.isAgg21
  z21 := Tryd.sizeOf21
  v21 := Tryd.zeroValue21
  t46 := Tryd.underlying96
  a46 := Tryd.isAgg96
  z46 := Tryd.sizeOf96
  v46 := Tryd.zeroValue96
  t105 := Tryd.underlying109
  a105 := Tryd.isAgg109
  z105 := Tryd.sizeOf109
  v105 := Tryd.zeroValue109
  t116 := Tryd.underlying88
  a116 := Tryd.isAgg88
  z116 := Tryd.sizeOf88
  t117 := Tryd.underlying89
  a117 := Tryd.isAgg89
  z117 := Tryd.sizeOf89
  v117 := Tryd.zeroValue89
  t119 := Tryd.underlying128
  a119 := Tryd.isAgg128
  z119 := Tryd.sizeOf128
  t124 := Tryd.underlying92
  a124 := Tryd.isAgg92
  z124 := Tryd.sizeOf92
  v124 := Tryd.zeroValue92
  t138 := Tryd.underlying130
  a138 := Tryd.isAgg130
  z138 := Tryd.sizeOf130
  v138 := Tryd.zeroValue130
  t139 := Tryd.underlying131
  a139 := Tryd.isAgg131
  z139 := Tryd.sizeOf131
  v139 := Tryd.zeroValue131
  g3 := by kernel_rfl
  g4 := by kernel_rfl }
def Tryd.lays137_ren : Go.Shelf.Ren := ⟨fun | 137 => 50 | 217 => 59 | 266 => 79 | n => n, fun | 9 => 9 | 5 => 5 | 3 => 3 | n => n, fun | n => n⟩
theorem Tryd.lays137 : Go.Proofs.Lays.n137 Tryd.prog Tryd.lays137_ren := {
  mixed := by kernel_rfl
  f137 := Tryd.func50.trans (congrArg some (by kernel_rfl))
  f217 := Tryd.func59.trans (congrArg some (by kernel_rfl))
  f266 := Tryd.func79.trans (congrArg some (by kernel_rfl))
  t3 := Tryd.underlying3
  a3 := Tryd.isAgg3
  z3 := Tryd.sizeOf3
  v3 := Tryd.zeroValue3
  t5 := Tryd.underlying5
  a5 := Tryd.isAgg5
  z5 := Tryd.sizeOf5
  v5 := Tryd.zeroValue5
  t9 := Tryd.underlying9
  a9 := Tryd.isAgg9
  z9 := Tryd.sizeOf9
  v9 := Tryd.zeroValue9 }
open Go.RowKit in
theorem Tryd.strings_IndexByte (s : ByteArray) (c : Int) (w : World) :
    Calls Tryd.prog 50 #[.string s, .int .u8 c] w fun e w' => e = .returned (.int .i64 (Lib.indexByte s.data.toList c.toNat.toUInt8)) ∧ w' = w := Any.strings_IndexByte Tryd.lays137 s c w
open Go.RowKit in
theorem Tryd.Builder_Len_f (B b : Nat) (bs : List Value) (w : World) (h : Lib.IsBuilderF 56 5 B b bs w) :
    Calls Tryd.prog 27 #[.pointer (some ⟨b, 0, none⟩)] w fun e w' => e = .returned (.int .i64 bs.length) ∧ w' = w := Any.Builder_Len_f Tryd.lays170 B b bs w h
open Go.RowKit in
theorem Tryd.Builder_String_any_k (B b : Nat) (l : List UInt8) (w : World) (h : Lib.IsBuilderF 56 5 B b (Lib.byteCells l) w) (hBw : B ≤ w.heap.size) :
    Calls Tryd.prog 28 #[.pointer (some ⟨b, 0, none⟩)] w fun e w' => e = .returned (.string ⟨l.toArray⟩) ∧ (Lib.IsBuilderF 56 5 B b (Lib.byteCells l) w' ∧ Below B w w' ∧ Lib.OthersKept 5 (some b) w w') := Any.Builder_String_any_k Tryd.lays169 Tryd.Builder_Extra_169 B b l w h hBw
def Tryd.laysM171_ren : Go.Shelf.Ren := ⟨fun | 171 => 15 | 243 => 23 | 246 => 36 | 283 => 46 | 284 => 47 | 285 => 48 | 286 => 49 | 129 => 71 | 317 => 70 | 318 => 72 | 319 => 73 | 320 => 74 | 337 => 85 | 338 => 86 | n => n, fun | 3 => 3 | 9 => 9 | 2 => 2 | 4 => 4 | 171 => 78 | 0 => 0 | 53 => 79 | 37 => 50 | 5 => 5 | 173 => 82 | 212 => 104 | 51 => 105 | 20 => 20 | 213 => 106 | 46 => 96 | 232 => 126 | 233 => 127 | n => n, fun | 17 => 1 | 18 => 4 | 19 => 5 | n => n⟩
theorem Tryd.laysM171 : Go.Proofs.LaysM.n171 Tryd.prog Tryd.laysM171_ren := {
  mixed := by kernel_rfl
  f129 := Tryd.func71.trans (congrArg some (by kernel_rfl))
  f171 := Tryd.func15.trans (congrArg some (by kernel_rfl))
  f243 := Tryd.func23.trans (congrArg some (by kernel_rfl))
  f246 := Tryd.func36.trans (congrArg some (by kernel_rfl))
  f283 := Tryd.func46.trans (congrArg some (by kernel_rfl))
  f284 := Tryd.func47.trans (congrArg some (by kernel_rfl))
  f285 := Tryd.func48.trans (congrArg some (by kernel_rfl))
  f286 := Tryd.func49.trans (congrArg some (by kernel_rfl))
  f317 := Tryd.func70.trans (congrArg some (by kernel_rfl))
  f318 := Tryd.func72.trans (congrArg some (by kernel_rfl))
  f319 := Tryd.func73.trans (congrArg some (by kernel_rfl))
  f320 := Tryd.func74.trans (congrArg some (by kernel_rfl))
  f337 := Tryd.func85.trans (congrArg some (by kernel_rfl))
  f338 := Tryd.func86.trans (congrArg some (by kernel_rfl))
  t0 := Tryd.underlying0
  a0 := Tryd.isAgg0
  z0 := Tryd.sizeOf0
  v0 := Tryd.zeroValue0
  t2 := Tryd.underlying2
  a2 := Tryd.isAgg2
  z2 := Tryd.sizeOf2
  v2 := Tryd.zeroValue2
  t3 := Tryd.underlying3
  a3 := Tryd.isAgg3
  z3 := Tryd.sizeOf3
  v3 := Tryd.zeroValue3
  t4 := Tryd.underlying4
  a4 := Tryd.isAgg4
  z4 := Tryd.sizeOf4
  v4 := Tryd.zeroValue4
  t5 := Tryd.underlying5
  a5 := Tryd.isAgg5
  z5 := Tryd.sizeOf5
  v5 := Tryd.zeroValue5
  t9 := Tryd.underlying9
  a9 := Tryd.isAgg9
  z9 := Tryd.sizeOf9
  v9 := Tryd.zeroValue9
  t20 := Tryd.underlying20
  a20 := Tryd.isAgg20
  z20 := Tryd.sizeOf20
  v20 := Tryd.zeroValue20
  t37 := Tryd.underlying50
  a37 := Tryd.isAgg50
  z37 := Tryd.sizeOf50
  v37 := Tryd.zeroValue50
  t46 := Tryd.underlying96
  a46 := Tryd.isAgg96
  z46 := Tryd.sizeOf96
  v46 := Tryd.zeroValue96
  t51 := Tryd.underlying105
  a51 := Tryd.isAgg105
  z51 := Tryd.sizeOf105
  v51 := Tryd.zeroValue105
  t53 := Tryd.underlying79
  a53 := Tryd.isAgg79
  z53 := Tryd.sizeOf79
  v53 := Tryd.zeroValue79
  t171 := Tryd.underlying78
  a171 := Tryd.isAgg78
  z171 := Tryd.sizeOf78
  v171 := Tryd.zeroValue78
  t173 := Tryd.underlying82
  a173 := Tryd.isAgg82
  z173 := Tryd.sizeOf82
  v173 := Tryd.zeroValue82
  t212 := Tryd.underlying104
  a212 := Tryd.isAgg104
  z212 := Tryd.sizeOf104
  v212 := Tryd.zeroValue104
  t213 := Tryd.underlying106
  a213 := Tryd.isAgg106
  z213 := Tryd.sizeOf106
  t232 := Tryd.underlying126
  a232 := Tryd.isAgg126
  z232 := Tryd.sizeOf126
  v232 := Tryd.zeroValue126
  t233 := Tryd.underlying127
  a233 := Tryd.isAgg127
  z233 := Tryd.sizeOf127
  v233 := Tryd.zeroValue127
  g17 := by kernel_rfl
  g18 := by kernel_rfl
  g19 := by kernel_rfl
  i0 := by kernel_rfl
  i2 := by kernel_rfl
  i3 := by kernel_rfl
  i4 := by kernel_rfl
  i5 := by kernel_rfl
  i9 := by kernel_rfl
  i20 := by kernel_rfl
  i37 := by kernel_rfl
  i46 := by kernel_rfl
  i51 := by kernel_rfl
  i53 := by kernel_rfl
  i171 := by kernel_rfl
  i173 := by kernel_rfl
  i212 := by kernel_rfl
  i232 := by kernel_rfl
  i233 := by kernel_rfl
  m17 := by kernel_rfl
  m18 := by kernel_rfl
  m19 := by kernel_rfl }
open Go.RowKit Go.Sort Go.Lib in
theorem Tryd.strconv_Itoa (n : Int) (h0 : -9223372036854775808 ≤ n) (h1 : n ≤ 9223372036854775807) (w : World) (htab : Lib.TabIs Tryd.prog w "internal/strconv.uint64pow10" .u64 Lib.pow10Tab) :
    Calls Tryd.prog 15 #[.int .i64 n] w fun e w' => e = .returned (.string ⟨(Lib.itoa n).toArray⟩) ∧ ∃ k os, w' = grow (w.drewN k) os := Any.strconv_Itoa Tryd.laysM171 n h0 h1 w htab
def Tryd.laysC172_ren : Go.Shelf.Ren := ⟨fun | 172 => 31 | 244 => 42 | 245 => 43 | 247 => 64 | 279 => 65 | 280 => 66 | 281 => 67 | 282 => 68 | 287 => 81 | 316 => 82 | 171 => 15 | 205 => 83 | 321 => 90 | 322 => 91 | 243 => 23 | 246 => 36 | 283 => 46 | 284 => 47 | 285 => 48 | 286 => 49 | 129 => 71 | 317 => 70 | 318 => 72 | 319 => 73 | 320 => 74 | 337 => 85 | 338 => 86 | n => n, fun | 9 => 9 | 3 => 3 | 75 => 58 | 76 => 59 | 4 => 4 | 5 => 5 | 167 => 97 | 37 => 50 | 0 => 0 | 85 => 98 | 2 => 2 | 168 => 100 | 53 => 79 | 175 => 114 | 46 => 96 | 210 => 117 | 127 => 73 | 145 => 125 | 143 => 123 | 21 => 21 | 171 => 78 | 173 => 82 | 212 => 104 | 51 => 105 | 20 => 20 | 213 => 106 | 232 => 126 | 233 => 127 | 80 => 62 | n => n, fun | 15 => 2 | 16 => 3 | 17 => 1 | 18 => 4 | 19 => 5 | n => n⟩
theorem Tryd.laysC172 : Go.Proofs.LaysC.n172 Tryd.prog Tryd.laysC172_ren := {
  mixed := by kernel_rfl
  f129 := Tryd.func71.trans (congrArg some (by kernel_rfl))
  f171 := Tryd.func15.trans (congrArg some (by kernel_rfl))
  f172 := Tryd.func31.trans (congrArg some (by kernel_rfl))
  f205 := Tryd.func83.trans (congrArg some (by kernel_rfl))
  f243 := Tryd.func23.trans (congrArg some (by kernel_rfl))
  f244 := Tryd.func42.trans (congrArg some (by kernel_rfl))
  f245 := Tryd.func43.trans (congrArg some (by kernel_rfl))
  f246 := Tryd.func36.trans (congrArg some (by kernel_rfl))
  f247 := Tryd.func64.trans (congrArg some (by kernel_rfl))
  f279 := Tryd.func65.trans (congrArg some (by kernel_rfl))
  f280 := Tryd.func66.trans (congrArg some (by kernel_rfl))
  f281 := Tryd.func67.trans (congrArg some (by kernel_rfl))
  f282 := Tryd.func68.trans (congrArg some (by kernel_rfl))
  f283 := Tryd.func46.trans (congrArg some (by kernel_rfl))
  f284 := Tryd.func47.trans (congrArg some (by kernel_rfl))
  f285 := Tryd.func48.trans (congrArg some (by kernel_rfl))
  f286 := Tryd.func49.trans (congrArg some (by kernel_rfl))
  f287 := Tryd.func81.trans (congrArg some (by kernel_rfl))
  f316 := Tryd.func82.trans (congrArg some (by kernel_rfl))
  f317 := Tryd.func70.trans (congrArg some (by kernel_rfl))
  f318 := Tryd.func72.trans (congrArg some (by kernel_rfl))
  f319 := Tryd.func73.trans (congrArg some (by kernel_rfl))
  f320 := Tryd.func74.trans (congrArg some (by kernel_rfl))
  f321 := Tryd.func90.trans (congrArg some (by kernel_rfl))
  f322 := Tryd.func91.trans (congrArg some (by kernel_rfl))
  f337 := Tryd.func85.trans (congrArg some (by kernel_rfl))
  f338 := Tryd.func86.trans (congrArg some (by kernel_rfl))
  t0 := Tryd.underlying0
  a0 := Tryd.isAgg0
  z0 := Tryd.sizeOf0
  v0 := Tryd.zeroValue0
  t2 := Tryd.underlying2
  a2 := Tryd.isAgg2
  z2 := Tryd.sizeOf2
  v2 := Tryd.zeroValue2
  t3 := Tryd.underlying3
  a3 := Tryd.isAgg3
  z3 := Tryd.sizeOf3
  v3 := Tryd.zeroValue3
  t4 := Tryd.underlying4
  a4 := Tryd.isAgg4
  z4 := Tryd.sizeOf4
  v4 := Tryd.zeroValue4
  t5 := Tryd.underlying5
  a5 := Tryd.isAgg5
  z5 := Tryd.sizeOf5
  v5 := Tryd.zeroValue5
  t9 := Tryd.underlying9
  a9 := Tryd.isAgg9
  z9 := Tryd.sizeOf9
  v9 := Tryd.zeroValue9
  t20 := Tryd.underlying20
  a20 := Tryd.isAgg20
  z20 := Tryd.sizeOf20
  v20 := Tryd.zeroValue20
  t21 := Tryd.underlying21
  a21 := Tryd.isAgg21
  z21 := Tryd.sizeOf21
  v21 := Tryd.zeroValue21
  t37 := Tryd.underlying50
  a37 := Tryd.isAgg50
  z37 := Tryd.sizeOf50
  v37 := Tryd.zeroValue50
  t46 := Tryd.underlying96
  a46 := Tryd.isAgg96
  z46 := Tryd.sizeOf96
  v46 := Tryd.zeroValue96
  t51 := Tryd.underlying105
  a51 := Tryd.isAgg105
  z51 := Tryd.sizeOf105
  v51 := Tryd.zeroValue105
  t53 := Tryd.underlying79
  a53 := Tryd.isAgg79
  z53 := Tryd.sizeOf79
  v53 := Tryd.zeroValue79
  t75 := Tryd.underlying58
  a75 := Tryd.isAgg58
  z75 := Tryd.sizeOf58
  v75 := Tryd.zeroValue58
  t76 := Tryd.underlying59
  a76 := Tryd.isAgg59
  z76 := Tryd.sizeOf59
  v76 := Tryd.zeroValue59
  t85 := Tryd.underlying98
  a85 := Tryd.isAgg98
  z85 := Tryd.sizeOf98
  v85 := Tryd.zeroValue98
  t127 := Tryd.underlying73
  a127 := Tryd.isAgg73
  z127 := Tryd.sizeOf73
  v127 := Tryd.zeroValue73
  t143 := Tryd.underlying123
  a143 := Tryd.isAgg123
  z143 := Tryd.sizeOf123
  v143 := Tryd.zeroValue123
  t145 := Tryd.underlying125
  a145 := Tryd.isAgg125
  z145 := Tryd.sizeOf125
  v145 := Tryd.zeroValue125
  t167 := Tryd.underlying97
  a167 := Tryd.isAgg97
  z167 := Tryd.sizeOf97
  v167 := Tryd.zeroValue97
  t168 := Tryd.underlying100
  a168 := Tryd.isAgg100
  z168 := Tryd.sizeOf100
  v168 := Tryd.zeroValue100
  t171 := Tryd.underlying78
  a171 := Tryd.isAgg78
  z171 := Tryd.sizeOf78
  v171 := Tryd.zeroValue78
  t173 := Tryd.underlying82
  a173 := Tryd.isAgg82
  z173 := Tryd.sizeOf82
  v173 := Tryd.zeroValue82
  t175 := Tryd.underlying114
  a175 := Tryd.isAgg114
  z175 := Tryd.sizeOf114
  v175 := Tryd.zeroValue114
  t210 := Tryd.underlying117
  a210 := Tryd.isAgg117
  z210 := Tryd.sizeOf117
  v210 := Tryd.zeroValue117
  t212 := Tryd.underlying104
  a212 := Tryd.isAgg104
  z212 := Tryd.sizeOf104
  v212 := Tryd.zeroValue104
  t213 := Tryd.underlying106
  a213 := Tryd.isAgg106
  z213 := Tryd.sizeOf106
  t232 := Tryd.underlying126
  a232 := Tryd.isAgg126
  z232 := Tryd.sizeOf126
  v232 := Tryd.zeroValue126
  t233 := Tryd.underlying127
  a233 := Tryd.isAgg127
  z233 := Tryd.sizeOf127
  v233 := Tryd.zeroValue127
  g15 := by kernel_rfl
  g16 := by kernel_rfl
  g17 := by kernel_rfl
  g18 := by kernel_rfl
  g19 := by kernel_rfl
  t80 := Tryd.underlying62
  a80 := Tryd.isAgg62
  z80 := Tryd.sizeOf62
  v80 := Tryd.zeroValue62
  i0 := by kernel_rfl
  i2 := by kernel_rfl
  i3 := by kernel_rfl
  i4 := by kernel_rfl
  i5 := by kernel_rfl
  i9 := by kernel_rfl
  i20 := by kernel_rfl
  i21 := by kernel_rfl
  i37 := by kernel_rfl
  i46 := by kernel_rfl
  i51 := by kernel_rfl
  i53 := by kernel_rfl
  i75 := by kernel_rfl
  i76 := by kernel_rfl
  i80 := by kernel_rfl
  i85 := by kernel_rfl
  i127 := by kernel_rfl
  i143 := by kernel_rfl
  i145 := by kernel_rfl
  i167 := by kernel_rfl
  i168 := by kernel_rfl
  i171 := by kernel_rfl
  i173 := by kernel_rfl
  i175 := by kernel_rfl
  i210 := by kernel_rfl
  i212 := by kernel_rfl
  i232 := by kernel_rfl
  i233 := by kernel_rfl
  m15 := by kernel_rfl
  m16 := by kernel_rfl
  m17 := by kernel_rfl
  m18 := by kernel_rfl
  m19 := by kernel_rfl
  c0 := by kernel_rfl
  c2 := by kernel_rfl
  c3 := by kernel_rfl
  c4 := by kernel_rfl
  c5 := by kernel_rfl
  c9 := by kernel_rfl
  c20 := by kernel_rfl
  c21 := by kernel_rfl
  c37 := by kernel_rfl
  c46 := by kernel_rfl
  c51 := by kernel_rfl
  c53 := by kernel_rfl
  c75 := by kernel_rfl
  c76 := by kernel_rfl
  c80 := by kernel_rfl
  c85 := by kernel_rfl
  c127 := by kernel_rfl
  c143 := by kernel_rfl
  c145 := by kernel_rfl
  c167 := by kernel_rfl
  c168 := by kernel_rfl
  c171 := by kernel_rfl
  c173 := by kernel_rfl
  c175 := by kernel_rfl
  c210 := by kernel_rfl
  c212 := by kernel_rfl
  c213 := by kernel_rfl
  c232 := by kernel_rfl
  c233 := by kernel_rfl }
open Go.RowKit in
theorem Tryd.strconv_Atoi_ok (s : ByteArray) (hmax : s.size ≤ 9223372036854775806) (v : Int) (h : Lib.atoiAll s.data.toList = .ok v) (w : World) :
    Calls Tryd.prog 31 #[.string s] w fun e w' => e = .returned (.tuple #[.int .i64 v, .nilIface]) ∧ (w' = w ∨ ∃ t, w' = Lib.bytesWorld w 5 t) := Any.strconv_Atoi_ok Tryd.laysC172 s hmax v h w
open Go.RowKit in
theorem Tryd.strconv_Atoi_syntax_var (s : ByteArray) (hlim : s.size ≤ 281474976710656) (h : Lib.atoiAll s.data.toList = Go.Lib.NumEnd.syntax) (tp : TypeId) (p : Value) (w : World) (hvar : w.var? Tryd.prog "strconv.ErrSyntax" = some #[.iface tp p]) :
    Calls Tryd.prog 31 #[.string s] w fun e w' => ∃ N, e = .returned (.tuple #[.int .i64 0, .iface 100 (.pointer (some ⟨N, 0, none⟩))]) ∧ w.heap.size ≤ N ∧ w'.heap[N]? = some (.cells #[.string ⟨#[65, 116, 111, 105]⟩, .string s, .iface tp p] 117 (0, 0)) ∧ Below w.heap.size w w' := Any.strconv_Atoi_syntax_var Tryd.laysC172 s hlim h tp p w hvar
open Go.RowKit in
theorem Tryd.strconv_Atoi_range_var (s : ByteArray) (hlim : s.size ≤ 281474976710656) (h : Lib.atoiAll s.data.toList = .range) (tp : TypeId) (p : Value) (w : World) (hvar : w.var? Tryd.prog "strconv.ErrRange" = some #[.iface tp p]) :
    Calls Tryd.prog 31 #[.string s] w fun e w' => ∃ N, e = .returned (.tuple #[.int .i64 (Lib.atoiSat s.data.toList), .iface 100 (.pointer (some ⟨N, 0, none⟩))]) ∧ w.heap.size ≤ N ∧ w'.heap[N]? = some (.cells #[.string ⟨#[65, 116, 111, 105]⟩, .string s, .iface tp p] 117 (0, 0)) ∧ Below w.heap.size w w' := Any.strconv_Atoi_range_var Tryd.laysC172 s hlim h tp p w hvar
def Tryd.lays145_ren : Go.Shelf.Ren := ⟨fun | 145 => 18 | 220 => 29 | 219 => 40 | 217 => 59 | 225 => 60 | 224 => 61 | 267 => 62 | 266 => 79 | 314 => 80 | n => n, fun | 9 => 9 | 4 => 4 | 59 => 45 | 3 => 3 | 5 => 5 | 46 => 96 | 146 => 112 | 51 => 105 | n => n, fun | 1 => 0 | n => n⟩
theorem Tryd.lays145 : Go.Proofs.Lays.n145 Tryd.prog Tryd.lays145_ren := {
  mixed := by kernel_rfl
  f145 := Tryd.func18.trans (congrArg some (by kernel_rfl))
  f217 := Tryd.func59.trans (congrArg some (by kernel_rfl))
  f219 := Tryd.func40.trans (congrArg some (by kernel_rfl))
  f220 := Tryd.func29.trans (congrArg some (by kernel_rfl))
  f224 := Tryd.func61.trans (congrArg some (by kernel_rfl))
  f225 := Tryd.func60.trans (congrArg some (by kernel_rfl))
  f266 := Tryd.func79.trans (congrArg some (by kernel_rfl))
  f267 := Tryd.func62.trans (congrArg some (by kernel_rfl))
  f314 := Tryd.func80.trans (congrArg some (by kernel_rfl))
  t3 := Tryd.underlying3
  a3 := Tryd.isAgg3
  z3 := Tryd.sizeOf3
  v3 := Tryd.zeroValue3
  t4 := Tryd.underlying4
  a4 := Tryd.isAgg4
  z4 := Tryd.sizeOf4
  v4 := Tryd.zeroValue4
  t5 := Tryd.underlying5
  a5 := Tryd.isAgg5
  z5 := Tryd.sizeOf5
  v5 := Tryd.zeroValue5
  t9 := Tryd.underlying9
  a9 := Tryd.isAgg9
  z9 := Tryd.sizeOf9
  v9 := Tryd.zeroValue9
  t46 := Tryd.underlying96
  a46 := Tryd.isAgg96
  z46 := Tryd.sizeOf96
  v46 := Tryd.zeroValue96
  t51 := Tryd.underlying105
  a51 := Tryd.isAgg105
  z51 := Tryd.sizeOf105
  v51 := Tryd.zeroValue105
  t59 := Tryd.underlying45
  a59 := Tryd.isAgg45
  z59 := Tryd.sizeOf45
  v59 := Tryd.zeroValue45
  t146 := Tryd.underlying112
  a146 := Tryd.isAgg112
  z146 := Tryd.sizeOf112
  v146 := Tryd.zeroValue112
  g1 := by kernel_rfl }
open Go.RowKit Go.Lib in
theorem Tryd.strings_Cut (s sep : ByteArray) (m : Int) (w : World) (hs : s.size < 4294967281) (hm : w.cell? ⟨0, 0, none⟩ = some (.int .i64 m)) :
    Calls Tryd.prog 18 #[.string s, .string sep] w fun e w' => e = .returned (.tuple #[.string ⟨(Lib.cut s.data.toList sep.data.toList).1.toArray⟩, .string ⟨(Lib.cut s.data.toList sep.data.toList).2.1.toArray⟩, .bool (Lib.cut s.data.toList sep.data.toList).2.2]) ∧ ∃ n, w' = w.drewN n := Any.strings_Cut Tryd.lays145 s sep m w hs hm
def Tryd.lays101_ren : Go.Shelf.Ren := ⟨fun | 101 => 30 | 208 => 41 | 206 => 63 | n => n, fun | 9 => 9 | 4 => 4 | 3 => 3 | n => n, fun | n => n⟩
theorem Tryd.lays101 : Go.Proofs.Lays.n101 Tryd.prog Tryd.lays101_ren := {
  mixed := by kernel_rfl
  f101 := Tryd.func30.trans (congrArg some (by kernel_rfl))
  f206 := Tryd.func63.trans (congrArg some (by kernel_rfl))
  f208 := Tryd.func41.trans (congrArg some (by kernel_rfl))
  t3 := Tryd.underlying3
  a3 := Tryd.isAgg3
  z3 := Tryd.sizeOf3
  v3 := Tryd.zeroValue3
  t4 := Tryd.underlying4
  a4 := Tryd.isAgg4
  z4 := Tryd.sizeOf4
  v4 := Tryd.zeroValue4
  t9 := Tryd.underlying9
  a9 := Tryd.isAgg9
  z9 := Tryd.sizeOf9
  v9 := Tryd.zeroValue9 }
open Go.RowKit Go.Lib in
theorem Tryd.strings_TrimPrefix (s p : ByteArray) (w : World) :
    Calls Tryd.prog 30 #[.string s, .string p] w fun e w' => e = .returned (.string ⟨(Lib.trimPrefix s.data.toList p.data.toList).toArray⟩) ∧ w' = w := Any.strings_TrimPrefix Tryd.lays101 s p w
def Tryd.lays166_ren : Go.Shelf.Ren := ⟨fun | 166 => 26 | 240 => 39 | 276 => 58 | n => n, fun | 0 => 0 | 3 => 3 | 4 => 4 | 5 => 5 | 9 => 9 | 20 => 20 | 37 => 50 | 70 => 54 | 72 => 56 | 75 => 58 | 80 => 62 | 164 => 93 | n => n, fun | n => n⟩
theorem Tryd.lays166 : Go.Proofs.Lays.n166 Tryd.prog Tryd.lays166_ren := {
  mixed := by kernel_rfl
  f166 := Tryd.func26.trans (congrArg some (by kernel_rfl))
  f240 := Tryd.func39.trans (congrArg some (by kernel_rfl))
  f276 := Tryd.func58.trans (congrArg some (by kernel_rfl))
  t0 := Tryd.underlying0
  a0 := Tryd.isAgg0
  z0 := Tryd.sizeOf0
  v0 := Tryd.zeroValue0
  t3 := Tryd.underlying3
  a3 := Tryd.isAgg3
  z3 := Tryd.sizeOf3
  v3 := Tryd.zeroValue3
  t4 := Tryd.underlying4
  a4 := Tryd.isAgg4
  z4 := Tryd.sizeOf4
  v4 := Tryd.zeroValue4
  t9 := Tryd.underlying9
  a9 := Tryd.isAgg9
  z9 := Tryd.sizeOf9
  v9 := Tryd.zeroValue9
  t20 := Tryd.underlying20
  a20 := Tryd.isAgg20
  z20 := Tryd.sizeOf20
  v20 := Tryd.zeroValue20
  t37 := Tryd.underlying50
  a37 := Tryd.isAgg50
  z37 := Tryd.sizeOf50
  v37 := Tryd.zeroValue50
  t70 := Tryd.underlying54
  a70 := Tryd.isAgg54
  z70 := Tryd.sizeOf54
  v70 := Tryd.zeroValue54
  t72 := Tryd.underlying56
  a72 := Tryd.isAgg56
  z72 := Tryd.sizeOf56
  v72 := Tryd.zeroValue56
  t75 := Tryd.underlying58
  a75 := Tryd.isAgg58
  z75 := Tryd.sizeOf58
  v75 := Tryd.zeroValue58
  t164 := Tryd.underlying93
  a164 := Tryd.isAgg93
  z164 := Tryd.sizeOf93
  v164 := Tryd.zeroValue93 }
theorem Tryd.Builder_Extra_166 : Builder.Extra Tryd.prog Tryd.lays166_ren := {
  sizeBuilder := by kernel_rfl
  liesBuilder := by kernel_rfl
  t5 := Tryd.underlying5
  a5 := Tryd.isAgg5
  z5 := Tryd.sizeOf5
  v5 := Tryd.zeroValue5
  infoByte := by kernel_rfl
  cellsByte := by kernel_rfl
  sizeByte := by kernel_rfl
  neB5 := by decide }
open Go.RowKit in
theorem Tryd.Builder_WriteString_k (B b : Nat) (bs : List Value) (s : ByteArray) (w : World) (h : Lib.IsBuilderF 56 5 B b bs w) (hlen : bs.length + s.size ≤ 140737488355328) (hBw : B ≤ w.heap.size) :
    Calls Tryd.prog 26 #[.pointer (some ⟨b, 0, none⟩), .string s] w fun e w' => e = .returned (.tuple #[.int .i64 s.size, .nilIface]) ∧ (Lib.BuilderAtF 56 5 B b (.pointer (some ⟨b, 0, none⟩)) (bs ++ Lib.strCells s) w' ∧ Below B w w' ∧ Lib.OthersKept 5 (some b) w w') := Any.Builder_WriteString_k Tryd.lays166 Tryd.Builder_Extra_166 B b bs s w h hlen hBw
end Go.Proofs
/- Glob -/
namespace Go.Proofs.YtaopopnlnohnpaaDoor.O
open Go.RowKit Go.Proofs.YtaopopnlnohnpaaDoorW.PrintWords Go.Proofs.YtaopopnlnohnpaaDoorW.PrintLast Go.Proofs.YtaopopnlnohnpaaDoorW.PrintMore
set_option linter.unusedVariables false
set_option linter.unusedSimpArgs false
structure Glob (w : World) : Prop where
  pow : Lib.TabIs Tryd.prog w "internal/strconv.uint64pow10" .u64 Lib.pow10Tab
  mlen : ∃ m, w.var? Tryd.prog "internal/bytealg.MaxLen" = some #[.int .i64 m]
  syn : ∃ t p, w.var? Tryd.prog "strconv.ErrSyntax" = some #[.iface t p]
  rng : ∃ t p, w.var? Tryd.prog "strconv.ErrRange" = some #[.iface t p]
theorem gpow : Tryd.prog.globalNamed "internal/strconv.uint64pow10" = some 1 := by kernel_rfl
theorem gmlen : Tryd.prog.globalNamed "internal/bytealg.MaxLen" = some 0 := by kernel_rfl
theorem gsyn : Tryd.prog.globalNamed "strconv.ErrSyntax" = some 2 := by kernel_rfl
theorem grng : Tryd.prog.globalNamed "strconv.ErrRange" = some 3 := by kernel_rfl
theorem Glob.below {w w' : World} (h : Glob w) (hb : Below w.heap.size w w') : Glob w' := by
  obtain ⟨h1, ⟨m, h2⟩, ⟨t3, p3, h3⟩, ⟨t4, p4, h4⟩⟩ := h
  exact ⟨Joins.var_stays gpow h1 hb (Nat.le_refl _), ⟨m, Joins.var_stays gmlen h2 hb (Nat.le_refl _)⟩, ⟨t3, p3, Joins.var_stays gsyn h3 hb (Nat.le_refl _)⟩, ⟨t4, p4, Joins.var_stays grng h4 hb (Nat.le_refl _)⟩⟩
theorem Glob.cell {w : World} (h : Glob w) : ∃ m, w.cell? ⟨0, 0, none⟩ = some (.int .i64 m) := by
  obtain ⟨m, hm⟩ := h.mlen
  exact ⟨m, by have h0 := World.var?_cell gmlen hm 0; simpa using h0⟩
/-- An error of the library's: none, or some interface value. -/
def ErrIs : Option Int → Value → Prop
  | none, v => v = .nilIface
  | some _, v => ∃ t p, v = .iface t p
theorem ErrIs.none_ {v : Value} (h : ErrIs none v) : v = .nilIface := h
theorem ErrIs.some_ {c : Int} {v : Value} (h : ErrIs (some c) v) : ∃ t p, v = .iface t p := h
theorem below_bytes (w : World) (e : TypeId) (s : ByteArray) : Below w.heap.size w (Lib.bytesWorld w e s) :=
  ⟨rfl, rfl, rfl, by rw [Lib.bytesWorld_size]; omega, fun i hi => Lib.bytesWorld_at_old w e s i hi⟩
theorem below_grown_ (w : World) (k : Nat) (os : Array Obj) : Below w.heap.size w (Sort.grow (w.drewN k) os) :=
  ⟨rfl, rfl, rfl, by show w.heap.size ≤ (w.heap ++ os).size; rw [Array.size_append]; omega, fun j hj => by
    show (w.heap ++ os)[j]? = w.heap[j]?
    rw [Array.getElem?_append_left hj]⟩
theorem bt_getD (s : ByteArray) (k : Nat) (h : k < s.size) : ((s.data.toList.getD k 0).toNat : Int) = bt s k := by
  unfold bt
  have h2 : k < s.data.size := h
  simp [h, List.getD_eq_getElem?_getD]
  rfl
theorem ret_str {a b : ByteArray} (h : a = b) : Ending.returned (.string a) = .returned (.string b) := by rw [h]
theorem ret_bool {a b : Bool} (h : a = b) : Ending.returned (.bool a) = .returned (.bool b) := by rw [h]
def asciiB (s : ByteArray) : Bool := s.data.toList.all fun b => decide (b.toNat < 128)
def strings_Trim.f (a0 a1 : ByteArray) : Option ByteArray := if a0.size ≤ 9223372036854775807 ∧ a1.size < 4294967281 ∧ asciiB a1 = true then some ⟨(Lib.trimS a0.data.toList a1.data.toList).toArray⟩ else none
theorem strings_Trim.calls (a0 a1 : ByteArray) (r : ByteArray) (w : World) (h : strings_Trim.f a0 a1 = some r) :
    Calls Tryd.prog 38 #[.string a0, .string a1] w fun e w' => e = .returned (.string r) ∧ Below w.heap.size w w' := by
  unfold strings_Trim.f at h
  split at h
  case isFalse => exact absurd h (by simp)
  rename_i hb
  obtain rfl := Option.some.inj h
  exact Any.strings_Trim_laid Tryd.lays160 zb11 a0 a1 w hb.1 hb.2.1 (ascii_of_all hb.2.2)
def lowI (c : Int) : Int := if 65 ≤ c ∧ c ≤ 90 then c + 32 else c
theorem low_or (c : Int) (h : 65 ≤ c ∧ c ≤ 90) : Go.bits .or .u8 c 32 = c + 32 := by
  obtain ⟨a, rfl⟩ := Int.eq_ofNat_of_zero_le (show 0 ≤ c by omega)
  have key : ∀ a : Fin 26, Go.bits .or .u8 (((a.val + 65 : Nat)) : Int) 32 = ((a.val + 65 : Nat) : Int) + 32 := by decide +kernel
  have := key ⟨a - 65, by omega⟩
  rwa [show a - 65 + 65 = a by omega] at this
def smallAt (s : ByteArray) (k : Nat) : List Int := (List.range s.size).map fun (j : Nat) => if j < k then lowI (bt s j) else bt s j
theorem smallAt_len (s : ByteArray) (k : Nat) : (smallAt s k).length = s.size := by simp [smallAt]
theorem smallAt_get (s : ByteArray) (k j : Nat) (h : j < s.size) : (smallAt s k).getD j 0 = if j < k then lowI (bt s j) else bt s j := by
  simp [smallAt, List.getD_eq_getElem?_getD, h]
def media_Small.f (a0 : ByteArray) : Option ByteArray := if a0.size ≤ 9223372036854775807 then some (strOfNums (smallAt a0 a0.size)) else none
set_option maxHeartbeats 1000000 in
theorem media_Small.calls (a0 : ByteArray) (r : ByteArray) (w : World) (h : media_Small.f a0 = some r) :
    Calls Tryd.prog 34 #[.string a0] w fun e w' => e = .returned (.string r) ∧ Below w.heap.size w w' := by
  unfold media_Small.f at h
  split at h
  case isFalse => exact absurd h (by simp)
  rename_i hsz
  obtain rfl := Option.some.inj h
  clear h
  have hconv := Lib.run_convert_string_bytes (P := Tryd.prog) w 9 50 5 a0 Tryd.underlying9 Tryd.underlying50 Tryd.underlying5
  have hb := Lib.hid (below_bytes w 5 a0)
  have hcell := Lib.hid (fun j hj => Lib.bytesWorld_cell w 5 a0 j hj)
  have hfz : Hid (∀ j : Nat, j < a0.size → (Lib.bytesWorld w 5 a0).frozen? ⟨w.heap.size, j, none⟩ = false) := Lib.hid (fun j hj => by
    have hs : a0.size ≤ (Lib.bytesCells w 5 a0).size := by
      unfold Lib.bytesCells
      rw [Array.size_append, Array.size_map]
      exact Nat.le_add_right _ _
    unfold World.frozen?
    rw [Lib.bytesWorld_at_new]
    simp
    omega)
  have hlt0 : Hid (w.heap.size < (Lib.bytesWorld w 5 a0).heap.size) := Lib.hid (by rw [Lib.bytesWorld_size]; omega)
  generalize Lib.bytesWorld w 5 a0 = w1 at *
  generalize grownCap w a0.size 0 5 = cap at *
  go_enter Tryd.func34, Tryd.ntmps34
  go_wp2
  go_loopw [10] (fun i wr => ∃ k : Nat, k ≤ a0.size ∧ i = .int .i64 k ∧ Hid (∀ j : Nat, j < a0.size → wr.cell? ⟨w.heap.size, j, none⟩ = some (.int .u8 ((smallAt a0 k).getD j 0)) ∧ wr.frozen? ⟨w.heap.size, j, none⟩ = false) ∧ Hid (Below w.heap.size w wr)) (fun i _ => a0.size - (intOf i).toNat)
  case atStart =>
    refine ⟨0, Nat.zero_le _, rfl, Lib.hid (fun j hj => ⟨?_, hfz.out j hj⟩), hb⟩
    rw [hcell.out j hj, bt_getD a0 j hj, smallAt_get a0 0 j hj, if_neg zb26]
  case round =>
    obtain ⟨k, hk, rfl, hc, hB⟩ := hrel
    by_cases hlt : k < a0.size
    · have hck : wr.cell? ⟨w.heap.size, k, none⟩ = some (.int .u8 (bt a0 k)) := by rw [(hc.out k hlt).1, smallAt_get a0 k k hlt, if_neg zb26]
      have hfk := (hc.out k hlt).2
      obtain ⟨q1, q2⟩ := bt_range a0 k
      have hrest : Hid (∀ j : Nat, j < a0.size → j ≠ k → (smallAt a0 (k + 1)).getD j 0 = (smallAt a0 k).getD j 0) := Lib.hid (fun j hj hne => by
        rw [smallAt_get _ _ _ hj, smallAt_get _ _ _ hj]
        by_cases hjk : j < k
        · rw [if_pos hjk, if_pos zb26]
        · rw [if_neg hjk, if_neg zb26])
      have hself : Hid ((smallAt a0 (k + 1)).getD k 0 = lowI (bt a0 k)) := Lib.hid (by rw [smallAt_get _ _ _ hlt, if_pos zb26])
      generalize bt a0 k = c at *
      by_cases hup : 65 ≤ c ∧ c ≤ 90
      · have ho := low_or c hup
        have hl : Hid (lowI c = c + 32) := Lib.hid (by unfold lowI; rw [if_pos hup])
        obtain ⟨u1, u2⟩ := hup
        go_wp2
        go_roundw
        case rel =>
          refine ⟨k + 1, by omega, by go_num, Lib.hid (fun j hj => ?_), Lib.hid (hB.out.setCell (Nat.le_refl _) _)⟩
          by_cases hjk : j = k
          · subst hjk
            rw [hself.out, hl.out]
            exact ⟨World.cell?_setCell_same _ _ _ hck, by rw [World.frozen?_setCell]; exact hfk⟩
          · refine ⟨?_, by rw [World.frozen?_setCell]; exact (hc.out j hj).2⟩
            have hne : (⟨w.heap.size, (k : Nat), none⟩ : Addr) ≠ ⟨w.heap.size, j, none⟩ := fun e => hjk (congrArg Addr.off e).symm
            exact ((World.cell?_setCell_other _ _ _ _ hne).trans (hc.out j hj).1).trans (by rw [hrest.out j hj hjk])
        case measure => simp [intOf]; omega
      · have hl : Hid (lowI c = c) := Lib.hid (by unfold lowI; rw [if_neg hup])
        have hd : Hid (∀ j : Nat, j < a0.size → wr.cell? ⟨w.heap.size, j, none⟩ = some (.int .u8 ((smallAt a0 (k + 1)).getD j 0)) ∧ wr.frozen? ⟨w.heap.size, j, none⟩ = false) := Lib.hid (fun j hj => by
          by_cases hjk : j = k
          · subst hjk
            rw [hself.out, hl.out]
            exact ⟨hck, hfk⟩
          · rw [hrest.out j hj hjk]
            exact hc.out j hj)
        by_cases u1 : 65 ≤ c
        · have u2 : ¬ c ≤ 90 := fun h => hup ⟨u1, h⟩
          clear hup
          go_wp2
          go_roundw
          case rel => exact ⟨k + 1, by omega, by go_num, hd, hB⟩
          case measure => simp [intOf]; omega
        · clear hup
          go_wp2
          go_roundw
          case rel => exact ⟨k + 1, by omega, by go_num, hd, hB⟩
          case measure => simp [intOf]; omega
    · obtain rfl : k = a0.size := by omega
      have hconv2 : (convert 50 9 (.slice (some ⟨w.heap.size, 0, none⟩) a0.size cap)).run Tryd.prog wr = .ok (.string (strOfNums (smallAt a0 a0.size))) wr := string_of_reads Tryd.underlying50 Tryd.underlying5 Tryd.underlying9 ⟨smallAt_len _ _, hsz, fun _ => ⟨_, rfl, fun j hj => by
        have := (hc.out j hj).1
        by_cases h0 : j = 0
        · subst h0
          exact this
        · simp only [Addr.add, h0, if_false, Nat.zero_add]
          exact this⟩⟩
      obtain ⟨out, hout⟩ : ∃ x, x = strOfNums (smallAt a0 a0.size) := ⟨_, rfl⟩
      rw [← hout] at hconv2
      have hout' := Lib.hid hout
      clear hout
      go_wp2
      go_ret
      exact ⟨ret_str hout'.out, hB.out⟩
def joinB (l : List ByteArray) (sep : ByteArray) : List UInt8 := Lib.join (l.map (·.data.toList)) sep.data.toList
def strings_Join.f (l0 : List ByteArray) (a1 : ByteArray) : Option ByteArray := if l0.length ≤ 140737488355328 ∧ (joinB l0 a1).length ≤ 140737488355328 then some ⟨(joinB l0 a1).toArray⟩ else none
theorem strings_Join.calls (A0 : Option Addr) (c0 : Nat) (l0 : List ByteArray) (a1 : ByteArray) (r : ByteArray) (w : World) (hr0 : Kd.C Kd.string w A0 l0.length l0) (hc0 : l0.length ≤ c0) (h : strings_Join.f l0 a1 = some r) :
    Calls Tryd.prog 35 #[.slice A0 l0.length c0, .string a1] w fun e w' => e = .returned (.string r) ∧ Below w.heap.size w w' := by
  unfold strings_Join.f at h
  split at h
  case isFalse => exact absurd h (by simp)
  rename_i hb
  obtain rfl := Option.some.inj h
  rcases Nat.eq_zero_or_pos l0.length with h0 | h0
  · obtain rfl := List.eq_nil_of_length_eq_zero h0
    refine (Tryd.strings_Join_none A0 c0 a1 w).mono ?_
    rintro e w' ⟨rfl, rfl⟩
    exact ⟨rfl, Below.refl _ _⟩
  · obtain ⟨h1, h2, h3⟩ := Kd.reads_of_C (enc := Value.string) (d := ByteArray.empty) (h1 := fun _ => rfl) hr0
    obtain ⟨ad, rfl, hc⟩ := h3 h0
    have hc0' := hc 0 h0
    have hsp : ad.spot = none := by
      cases hs : ad.spot with
      | none => rfl
      | some q =>
        exfalso
        rw [show ad.add 0 = ad from rfl] at hc0'
        unfold World.cell? at hc0'
        rw [hs] at hc0'
        split at hc0' <;> simp at hc0'
    obtain ⟨bk, o, sp⟩ := ad
    simp only at hsp
    subst hsp
    have hcell : ∀ (j : Nat) x, l0[j]? = some x → w.cell? ⟨bk, o + j, none⟩ = some (.string x) := by
      intro j x hx
      obtain ⟨hl, hx'⟩ := List.getElem?_eq_some_iff.1 hx
      have := hc j hl
      rw [show (⟨bk, o, none⟩ : Addr).add j = ⟨bk, o + j, none⟩ from by unfold Addr.add; split <;> simp_all] at this
      rw [this, List.getD_eq_getElem?_getD, hx]
      rfl
    have hbk : bk < w.heap.size := World.block_lt_of_cell? w _ (hcell 0 _ (List.getElem?_eq_getElem h0))
    exact Tryd.strings_Join bk o c0 l0 a1 w hcell hbk hb.1 hc0 hb.2
end Go.Proofs.YtaopopnlnohnpaaDoor.O
/- Px3 -/
namespace Go.Proofs.YtaopopnlnohnpaaDoor.P
open Go.Proofs.YtaopopnlnohnpaaDoor.B
open Go.RowKit Go.Proofs.YtaopopnlnohnpaaDoorW.PrintWords Go.Proofs.YtaopopnlnohnpaaDoorW.PrintLast Go.Proofs.YtaopopnlnohnpaaDoorW.PrintMore
attribute [local go_sem] str_leq str_gtr str_geq max2_int min2_int max_two min_two max_three min_three max_four min_four
set_option linter.unusedVariables false
set_option linter.unusedSimpArgs false
open Go.Proofs.YtaopopnlnohnpaaDoor.O
def field_Get.l0 : Nat → ByteArray → List ByteArray → List (S35) → Int → Int → Option (ByteArray × Int)
  | 0, _, _, _, _, _ => none
  | k + 1, x1, x6, x10, x11, x12 => if x12 < x11 then (if 0 ≤ x12 then (if x12 < (x10.length : Int) then ((media_Small.f ((rd_T35 x10 x12).f0)).bind fun t107 => ((media_Small.f x1).bind fun t108 => (if t107.toList = t108.toList then (if x6.length < 8796093022208 then (field_Get.l0 k x1 (x6 ++ [(rd_T35 x10 x12).f1]) x10 x11 (wrap64 (x12 + 1))) else (none)) else (field_Get.l0 k x1 x6 x10 x11 (wrap64 (x12 + 1)))))) else (none)) else (none)) else ((strings_Join.f x6 (⟨#[44, 32]⟩ : ByteArray)).bind fun t104 => (some (t104, (x6.length : Int))))
def field_Get.f (k : Nat) (l0 : List (S35)) (a1 : ByteArray) : Option (ByteArray × Int) := field_Get.l0 k a1 (([] : List ByteArray)) l0 (l0.length : Int) 0
set_option maxHeartbeats 8000000 in
set_option maxRecDepth 100000 in
theorem field_Get.calls (k : Nat) (A0 : Option Addr) (c0 : Nat) (l0 : List (S35)) (a1 : ByteArray) (r1 : ByteArray) (r2 : Int) (w : World) (hr0 : Kd.C k35 w A0 l0.length l0) (hc0 : l0.length ≤ c0) (h : field_Get.f k l0 a1 = some (r1, r2)) :
  Calls Tryd.prog 22 #[.slice A0 l0.length c0, .string a1] w fun e w' => e = .returned (.tuple #[.string r1, .int .i64 r2]) ∧ Below w.heap.size w w' := by
 have hu35 := Tryd.underlying35
 have HR0 := Aside0.mk hr0
 have HC0 := Aside0.mk hc0
 clear hr0 hc0
 have HB := Aside0.mk (Below.refl w.heap.size w)
 have H : (field_Get.l0 k a1 (([] : List ByteArray)) l0 (l0.length : Int) 0) = some (r1, r2) := h
 clear h
 obtain ⟨y101, hy101⟩ : ∃ y_ : List ByteArray, y_ = (([] : List ByteArray)) := ⟨_, rfl⟩
 replace H : (field_Get.l0 k a1 y101 l0 (l0.length : Int) 0) = some (r1, r2) := by first | (rw [hy101]; with_reducible exact H) | (have H2_ := (Option.bind_some _ _).symm.trans H; rw [hy101]; with_reducible exact H2_) | (have H2_ := (Option.bind_some _ _).symm.trans H; with_reducible exact H2_) | with_reducible exact H | (rw [hy101]; exact H) | exact H
 have Ny101 := Aside0.mk hy101
 clear hy101
 have H' := Aside0.mk H
 clear H
 go_enter Tryd.func22, Tryd.ntmps22
 go_wp2_with (first | ((with_reducible refine gate_dst (N := 9) rfl ?_); refine Kd.R_lit Kd.string _ 9 ?hg (N := 9) ?hd (xs := ([] : List ByteArray)) (inner := []) (ok := fun _ => True) (okp := fun _ => True) ?hr ?hp (fun _ hk => hk) trivial (Below.refl _ _) (Nat.le_refl _) (by simp) ?_; (case hd => rfl); (case hg => rfl); (case hr => first | (go_simp; done) | (go_simp; rfl)); (case hp => exact (Reps.none _ _)); intro v102 w3 ho4 hb hg_ hnew_; clear hg_ hnew_; (first | rw [← Ny101.out] at ho4 | (simp only [Int.reduceToNat] at ho4; rw [← Ny101.out] at ho4)); have n0_ := Aside0.mk (Kd.R_lower ho4 (below_size zb0)); have n1_ := Aside0.mk (below_step zb0 hb); clear HB; have HO103 := n0_; have HB := n1_; clear n0_ n1_; clear hb ho4))
 first | go_loopg [6, 12] k (fun kq v6 v12 w' => ∃ (x6_1 : List ByteArray) (x12_1 : Int), v12 = .int .i64 x12_1 ∧ Aside0 (field_Get.l0 kq a1 x6_1 l0 (l0.length : Int) x12_1 = some (r1, r2)) ∧ Aside0 (kq ≤ k) ∧ Aside0 (Kd.R Kd.string 9 w' w.heap.size (fun _ => True) v6 x6_1) ∧ Aside0 (Below w.heap.size w w')) | (go_simp; go_loopg [6, 12] k (fun kq v6 v12 w' => ∃ (x6_1 : List ByteArray) (x12_1 : Int), v12 = .int .i64 x12_1 ∧ Aside0 (field_Get.l0 kq a1 x6_1 l0 (l0.length : Int) x12_1 = some (r1, r2)) ∧ Aside0 (kq ≤ k) ∧ Aside0 (Kd.R Kd.string 9 w' w.heap.size (fun _ => True) v6 x6_1) ∧ Aside0 (Below w.heap.size w w')))
 case atStart => exact ⟨(y101), (0), zb19, H', ⟨Nat.le_refl _⟩, ⟨by (with_reducible repeat (first | apply Kd.R_alloc | apply Kd.R_drewN | apply Kd.R_drew)); exact HO103.out⟩, ⟨by repeat (first | (with_reducible first | exact HB.out | apply below_alloc | apply pw_below_drewN | apply below_drew1) | exact HB.out)⟩⟩
 case round =>
  clear H'
  try clear c2
  try clear p2
  obtain ⟨x6_1, x12_1, rfl, HA, HK1, HO_6, HB⟩ := hrel
  cases gk with
  | zero => exact absurd HA.out (by simp [field_Get.l0])
  | succ k1 =>
   have H := HA.out
   clear HA
   simp only [field_Get.l0] at H
   by_cases c5 : x12_1 < (l0.length : Int)
   ·rw [if_pos c5] at H
    have c5b0 : decide (x12_1 < (l0.length : Int)) = true := decide_eq_true c5
    clear c5
    by_cases c6 : 0 ≤ x12_1
    ·rw [if_pos c6] at H
     have c6b0 : decide (0 ≤ x12_1) = true := decide_eq_true c6
     clear c6
     by_cases c7 : x12_1 < (l0.length : Int)
     ·rw [if_pos c7] at H
      have c7b0 : decide (x12_1 < (l0.length : Int)) = true := decide_eq_true c7
      clear c7
      replace H := Option.bind_eq_some_iff.mp H
      obtain ⟨t107, A80, H⟩ := H
      replace H : ((media_Small.f a1).bind fun t108 => (if t107.toList = t108.toList then (if x6_1.length < 8796093022208 then (field_Get.l0 k1 a1 (x6_1 ++ [(rd_T35 l0 x12_1).f1]) l0 (l0.length : Int) (wrap64 (x12_1 + 1))) else (none)) else (field_Get.l0 k1 a1 x6_1 l0 (l0.length : Int) (wrap64 (x12_1 + 1))))) = some (r1, r2) := H
      have A8 := Aside0.mk A80
      clear A80
      replace H := Option.bind_eq_some_iff.mp H
      obtain ⟨t108, A90, H⟩ := H
      replace H : (if t107.toList = t108.toList then (if x6_1.length < 8796093022208 then (field_Get.l0 k1 a1 (x6_1 ++ [(rd_T35 l0 x12_1).f1]) l0 (l0.length : Int) (wrap64 (x12_1 + 1))) else (none)) else (field_Get.l0 k1 a1 x6_1 l0 (l0.length : Int) (wrap64 (x12_1 + 1)))) = some (r1, r2) := H
      have A9 := Aside0.mk A90
      clear A90
      by_cases c10 : t107.toList = t108.toList
      ·rw [if_pos c10] at H
       have c10b0 : (t107.toList == t108.toList) = true := beq_iff_eq.mpr c10
       have c10b1 : (t107.toList != t108.toList) = false := bne_eq_false_iff_eq.mpr c10
       clear c10
       by_cases c11 : x6_1.length < 8796093022208
       ·rw [if_pos c11] at H
        have LMc11 := Aside0.mk c11
        clear c11
        obtain ⟨y109, hy109⟩ : ∃ y_ : List ByteArray, y_ = (x6_1 ++ [(rd_T35 l0 x12_1).f1]) := ⟨_, rfl⟩
        replace H : (field_Get.l0 k1 a1 y109 l0 (l0.length : Int) (wrap64 (x12_1 + 1))) = some (r1, r2) := by first | (rw [hy109]; with_reducible exact H) | (have H2_ := (Option.bind_some _ _).symm.trans H; rw [hy109]; with_reducible exact H2_) | (have H2_ := (Option.bind_some _ _).symm.trans H; with_reducible exact H2_) | with_reducible exact H | (rw [hy109]; exact H) | exact H
        have Ny109 := Aside0.mk hy109
        clear hy109
        have H' := Aside0.mk H
        clear H
        have p105 : 0 ≤ (x12_1 : Int) := of_decide_eq_true zb12
        have q105 : x12_1 < (l0.length : Int) := of_decide_eq_true zb12
        obtain ⟨ad105, e105, hx105_0, hx105_1⟩ := at_T35 HR0.out x12_1 p105 q105
        cases e105
        replace hx105_0 := (HB.out.cell (World.block_lt_of_cell? w _ hx105_0)).trans hx105_0
        replace hx105_1 := (HB.out.cell (World.block_lt_of_cell? w _ hx105_1)).trans hx105_1
        replace p105 := eq_true p105
        replace q105 := eq_true q105
        go_wp2_with (first | ((with_reducible refine gate_dst (N := 8) rfl ?_); refine box_event ?hg (N := 8) ?hd (cs := #[.string (⟨#[]⟩ : ByteArray), .string (⟨#[]⟩ : ByteArray)]) (t := 35) ?hr ?_; (case hd => rfl); (case hg => rfl); (case hr => first | (go_simp; done) | (go_simp; rfl)); intro gb106 hg w12 hbox hb; have n0_ := Aside0.mk (Kd.R_below zb28 hb); have n1_ := Aside0.mk (below_step zb0 hb); have n2_ := Aside0.mk (hbox); have n3_ := Aside0.mk ((by rw [hg]; exact (below_size zb0) : w.heap.size ≤ gb106)); have n4_ := Aside0.mk ((by rw [hg]; exact (below_size zb0) : w.heap.size ≤ gb106)); clear HO_6; clear HB; have HO_6 := n0_; have HB := n1_; have BK106 := n2_; have GW106 := n3_; have GE106 := n4_; clear n0_ n1_ n2_ n3_ n4_; clear hb hbox hg; have hcz13_0 : w12.cell? ⟨gb106, 0, none⟩ = some (.string (⟨#[]⟩ : ByteArray)) := (blk_cell BK106.out 0).trans rfl; have hcz13_1 : w12.cell? ⟨gb106, 1, none⟩ = some (.string (⟨#[]⟩ : ByteArray)) := (blk_cell BK106.out 1).trans rfl; have hfz13_0 := blk_frozen BK106.out 0; have hfz13_1 := blk_frozen BK106.out 1) | ((with_reducible refine gate_callee (f := 34) rfl ?_); refine goesL_ (some 18) rfl rfl Tryd.func34 zb11 rfl #[.string ((rd_T35 l0 x12_1).f0)] rfl zb1 ?_; (with_reducible refine (media_Small.calls ((rd_T35 l0 x12_1).f0) t107 _ A8.out).mono ?_); rintro e w14 ⟨rfl, hb⟩; refine ⟨_, rfl, ?_⟩; have n0_ := Aside0.mk (Kd.R_below zb33 hb); have n1_ := Aside0.mk (blk_below (g := gb106) (o := .cells #[.string ((rd_T35 l0 x12_1).f0), .string ((rd_T35 l0 x12_1).f1)] 35 (0, 0)) zb27 hb); have n2_ := Aside0.mk (below_step zb23 hb); clear HO_6; clear BK106; clear HB; have HO_6 := n0_; have BK106 := n1_; have HB := n2_; clear n0_ n1_ n2_; (try clear hb); (try clear hb2); (try clear hk); (try clear hi)) | ((with_reducible refine gate_callee (f := 34) rfl ?_); refine goesL_ (some 20) rfl rfl Tryd.func34 zb11 rfl #[.string a1] rfl zb1 ?_; (with_reducible refine (media_Small.calls a1 t108 _ A9.out).mono ?_); rintro e w15 ⟨rfl, hb⟩; refine ⟨_, rfl, ?_⟩; have n0_ := Aside0.mk (Kd.R_below zb28 hb); have n1_ := Aside0.mk (blk_below (g := gb106) (o := .cells #[.string ((rd_T35 l0 x12_1).f0), .string ((rd_T35 l0 x12_1).f1)] 35 (0, 0)) zb37 hb); have n2_ := Aside0.mk (below_step zb23 hb); clear HO_6; clear BK106; clear HB; have HO_6 := n0_; have BK106 := n1_; have HB := n2_; clear n0_ n1_ n2_; (try clear hb); (try clear hb2); (try clear hk); (try clear hi); have hcz16_0 : w15.cell? ⟨gb106, 0, none⟩ = some (.string ((rd_T35 l0 x12_1).f0)) := (blk_cell BK106.out 0).trans rfl; have hcz16_1 : w15.cell? ⟨gb106, 1, none⟩ = some (.string ((rd_T35 l0 x12_1).f1)) := (blk_cell BK106.out 1).trans rfl; have hfz16_0 := blk_frozen BK106.out 0; have hfz16_1 := blk_frozen BK106.out 1) | ((with_reducible refine gate_builtin (b := .append) (xs := #[.tmp 22, .tmp 25]) rfl ?_); at_builtin; refine Kd.R_append Kd.string (w0 := w) w.heap.size rfl (.tmp 22) (.tmp 25) 69 9 (.string ⟨#[]⟩) 16 rfl Tryd.underlying69 info9 rfl zb32 zb26 u6 x6_1 ((rd_T35 l0 x12_1).f1) [.string ((rd_T35 l0 x12_1).f1)] (fun _ => True) (fun _ => False) rfl rfl ?aP (fun _ hk => hk.elim) ?aF ?aO ?aB ?aS ?aL ?_; (case aP => exact rfl); (case aB => exact zb23); (case aF => exact (fun _ _ => trivial)); (case aO => exact zb28); (case aS => exact (below_size zb23)); (case aL => have := LMc11.out; omega); intro v110 w17 ho hb hg hat; rw [← Ny109.out] at ho; have n0_ := Aside0.mk (blk_grown (g := gb106) (o := .cells #[.string ((rd_T35 l0 x12_1).f0), .string ((rd_T35 l0 x12_1).f1)] 35 (0, 0)) zb37 hg (Kd.R_ne HO_6.out BK106.out zb32)); have n1_ := Aside0.mk (hb); have n2_ := Aside0.mk (ho); clear BK106; clear HB; clear HO_6; have BK106 := n0_; have HB := n1_; have HO111 := n2_; clear n0_ n1_ n2_; clear ho hb hg hat))
        go_roundg k1
        case measure => have := HK1.out; omega
        case rel => exact ⟨(y109), (wrap64 (x12_1 + 1)), zb19, H', ⟨by have := HK1.out; omega⟩, ⟨by (with_reducible repeat (first | apply Kd.R_alloc | apply Kd.R_drewN | apply Kd.R_drew)); exact HO111.out⟩, ⟨by repeat (first | (with_reducible first | exact HB.out | apply below_alloc | apply pw_below_drewN | apply below_drew1 | refine below_set ?_ GE106.out) | exact HB.out)⟩⟩
       ·rw [if_neg c11] at H
        exact absurd H (by simp)
      ·rw [if_neg c10] at H
       have c10b0 : (t107.toList == t108.toList) = false := beq_eq_false_iff_ne.mpr c10
       have c10b1 : (t107.toList != t108.toList) = true := bne_iff_ne.mpr c10
       have H' := Aside0.mk H
       clear H
       have p105 : 0 ≤ (x12_1 : Int) := of_decide_eq_true zb12
       have q105 : x12_1 < (l0.length : Int) := of_decide_eq_true zb12
       obtain ⟨ad105, e105, hx105_0, hx105_1⟩ := at_T35 HR0.out x12_1 p105 q105
       cases e105
       replace hx105_0 := (HB.out.cell (World.block_lt_of_cell? w _ hx105_0)).trans hx105_0
       replace hx105_1 := (HB.out.cell (World.block_lt_of_cell? w _ hx105_1)).trans hx105_1
       replace p105 := eq_true p105
       replace q105 := eq_true q105
       go_wp2_with (first | ((with_reducible refine gate_dst (N := 8) rfl ?_); refine box_event ?hg (N := 8) ?hd (cs := #[.string (⟨#[]⟩ : ByteArray), .string (⟨#[]⟩ : ByteArray)]) (t := 35) ?hr ?_; (case hd => rfl); (case hg => rfl); (case hr => first | (go_simp; done) | (go_simp; rfl)); intro gb106 hg w18 hbox hb; have n0_ := Aside0.mk (Kd.R_below zb28 hb); have n1_ := Aside0.mk (below_step zb0 hb); have n2_ := Aside0.mk (hbox); have n3_ := Aside0.mk ((by rw [hg]; exact (below_size zb0) : w.heap.size ≤ gb106)); have n4_ := Aside0.mk ((by rw [hg]; exact (below_size zb0) : w.heap.size ≤ gb106)); clear HO_6; clear HB; have HO_6 := n0_; have HB := n1_; have BK106 := n2_; have GW106 := n3_; have GE106 := n4_; clear n0_ n1_ n2_ n3_ n4_; clear hb hbox hg; have hcz19_0 : w18.cell? ⟨gb106, 0, none⟩ = some (.string (⟨#[]⟩ : ByteArray)) := (blk_cell BK106.out 0).trans rfl; have hcz19_1 : w18.cell? ⟨gb106, 1, none⟩ = some (.string (⟨#[]⟩ : ByteArray)) := (blk_cell BK106.out 1).trans rfl; have hfz19_0 := blk_frozen BK106.out 0; have hfz19_1 := blk_frozen BK106.out 1) | ((with_reducible refine gate_callee (f := 34) rfl ?_); refine goesL_ (some 18) rfl rfl Tryd.func34 zb11 rfl #[.string ((rd_T35 l0 x12_1).f0)] rfl zb1 ?_; (with_reducible refine (media_Small.calls ((rd_T35 l0 x12_1).f0) t107 _ A8.out).mono ?_); rintro e w20 ⟨rfl, hb⟩; refine ⟨_, rfl, ?_⟩; have n0_ := Aside0.mk (Kd.R_below zb33 hb); have n1_ := Aside0.mk (blk_below (g := gb106) (o := .cells #[.string ((rd_T35 l0 x12_1).f0), .string ((rd_T35 l0 x12_1).f1)] 35 (0, 0)) zb27 hb); have n2_ := Aside0.mk (below_step zb23 hb); clear HO_6; clear BK106; clear HB; have HO_6 := n0_; have BK106 := n1_; have HB := n2_; clear n0_ n1_ n2_; (try clear hb); (try clear hb2); (try clear hk); (try clear hi)) | ((with_reducible refine gate_callee (f := 34) rfl ?_); refine goesL_ (some 20) rfl rfl Tryd.func34 zb11 rfl #[.string a1] rfl zb1 ?_; (with_reducible refine (media_Small.calls a1 t108 _ A9.out).mono ?_); rintro e w21 ⟨rfl, hb⟩; refine ⟨_, rfl, ?_⟩; have n0_ := Aside0.mk (Kd.R_below zb28 hb); have n1_ := Aside0.mk (blk_below (g := gb106) (o := .cells #[.string ((rd_T35 l0 x12_1).f0), .string ((rd_T35 l0 x12_1).f1)] 35 (0, 0)) zb37 hb); have n2_ := Aside0.mk (below_step zb23 hb); clear HO_6; clear BK106; clear HB; have HO_6 := n0_; have BK106 := n1_; have HB := n2_; clear n0_ n1_ n2_; (try clear hb); (try clear hb2); (try clear hk); (try clear hi)))
       go_roundg k1
       case measure => have := HK1.out; omega
       case rel => exact ⟨(x6_1), (wrap64 (x12_1 + 1)), zb19, H', ⟨by have := HK1.out; omega⟩, ⟨by (with_reducible repeat (first | apply Kd.R_alloc | apply Kd.R_drewN | apply Kd.R_drew)); exact HO_6.out⟩, ⟨by repeat (first | (with_reducible first | exact HB.out | apply below_alloc | apply pw_below_drewN | apply below_drew1 | refine below_set ?_ GE106.out) | exact HB.out)⟩⟩
     ·rw [if_neg c7] at H
      exact absurd H (by simp)
    ·rw [if_neg c6] at H
     exact absurd H (by simp)
   ·rw [if_neg c5] at H
    have c5b0 : decide (x12_1 < (l0.length : Int)) = false := decide_eq_false c5
    clear c5
    replace H := Option.bind_eq_some_iff.mp H
    obtain ⟨t104, A220, H⟩ := H
    replace H : (some (t104, (x6_1.length : Int))) = some (r1, r2) := H
    have A22 := Aside0.mk A220
    clear A220
    simp only [Option.some.injEq, Prod.mk.injEq] at H
    obtain ⟨rfl, rfl⟩ := H
    obtain ⟨Ao23, co23, eo23⟩ := Kd.R_slice HO_6.out
    subst eo23
    go_wp2_with (first | ((with_reducible refine gate_callee (f := 35) rfl ?_); refine goesL_ (some 29) rfl rfl Tryd.func35 zb11 rfl #[.slice Ao23 x6_1.length co23, .string (⟨#[44, 32]⟩ : ByteArray)] rfl zb1 ?_; (with_reducible refine (strings_Join.calls _ _ x6_1 (⟨#[44, 32]⟩ : ByteArray) t104 _ ?side1 ?side2 A22.out).mono ?_); (case side1 => repeat (first | exact (Kd.R_reads' HO_6.out).2.2 | (with_reducible refine Kd.C_alloc ?_ _) | (with_reducible refine Kd.C_drewN ?_ _) | (with_reducible refine Kd.C_drew ?_))); (case side2 => exact (Kd.R_reads' HO_6.out).2.1); rintro e w24 ⟨rfl, hb⟩; refine ⟨_, rfl, ?_⟩; have n0_ := Aside0.mk (Kd.R_below zb28 hb); have n1_ := Aside0.mk (below_step zb0 hb); clear HO_6; clear HB; have HO_6 := n0_; have HB := n1_; clear n0_ n1_; (try clear hb); (try clear hb2); (try clear hk); (try clear hi)))
    go_ret2
    exact ⟨zb8, zb0⟩
end Go.Proofs.YtaopopnlnohnpaaDoor.P
/- Px4 -/
namespace Go.Proofs.YtaopopnlnohnpaaDoor.P
open Go.Proofs.YtaopopnlnohnpaaDoor.B
open Go.RowKit Go.Proofs.YtaopopnlnohnpaaDoorW.PrintWords Go.Proofs.YtaopopnlnohnpaaDoorW.PrintLast Go.Proofs.YtaopopnlnohnpaaDoorW.PrintMore
attribute [local go_sem] str_leq str_gtr str_geq max2_int min2_int max_two min_two max_three min_three max_four min_four
set_option linter.unusedVariables false
set_option linter.unusedSimpArgs false
def response_lengths.f (k : Nat) (l0 : List (S35)) : Option (Int) := (field_Get.f k l0 (⟨#[99, 111, 110, 116, 101, 110, 116, 45, 108, 101, 110, 103, 116, 104]⟩ : ByteArray)).bind fun bt112 => (some bt112.2)
set_option maxHeartbeats 8000000 in
set_option maxRecDepth 100000 in
theorem response_lengths.calls (k : Nat) (A0 : Option Addr) (c0 : Nat) (l0 : List (S35)) (r : Int) (w : World) (hr0 : Kd.C k35 w A0 l0.length l0) (hc0 : l0.length ≤ c0) (h : response_lengths.f k l0 = some r) :
  Calls Tryd.prog 13 #[.slice A0 l0.length c0] w fun e w' => e = .returned (.int .i64 r) ∧ Below w.heap.size w w' := by
 have HR0 := Aside0.mk hr0
 have HC0 := Aside0.mk hc0
 clear hr0 hc0
 have HB := Aside0.mk (Below.refl w.heap.size w)
 have H : ((field_Get.f k l0 (⟨#[99, 111, 110, 116, 101, 110, 116, 45, 108, 101, 110, 103, 116, 104]⟩ : ByteArray)).bind fun bt112 => (some bt112.2)) = some r := h
 clear h
 replace H := Option.bind_eq_some_iff.mp H
 obtain ⟨⟨t112, t113⟩, A20, H⟩ := H
 replace H : (some t113) = some r := H
 have A2 := Aside0.mk A20
 clear A20
 obtain rfl := Option.some.inj H
 go_enter Tryd.func13, Tryd.ntmps13
 go_wp2_with (first | ((with_reducible refine gate_callee (f := 22) rfl ?_); refine goesL_ (some 7) rfl rfl Tryd.func22 zb11 rfl #[.slice A0 l0.length c0, .string (⟨#[99, 111, 110, 116, 101, 110, 116, 45, 108, 101, 110, 103, 116, 104]⟩ : ByteArray)] rfl zb1 ?_; (with_reducible refine (field_Get.calls k _ _ l0 (⟨#[99, 111, 110, 116, 101, 110, 116, 45, 108, 101, 110, 103, 116, 104]⟩ : ByteArray) t112 t113 _ ?side1 ?side2 A2.out).mono ?_); (case side1 => repeat (first | exact HR0.out | (with_reducible refine Kd.C_alloc ?_ _) | (with_reducible refine Kd.C_drewN ?_ _) | (with_reducible refine Kd.C_drew ?_))); (case side2 => exact HC0.out); rintro e w3 ⟨rfl, hb⟩; refine ⟨_, rfl, ?_⟩; have n0_ := Aside0.mk (below_step zb0 hb); clear HB; have HB := n0_; clear n0_; (try clear hb); (try clear hb2); (try clear hk); (try clear hi)))
 go_ret
 exact ⟨zb8, zb0⟩
end Go.Proofs.YtaopopnlnohnpaaDoor.P
/- Oito -/
namespace Go.Proofs.YtaopopnlnohnpaaDoor.O
open Go.RowKit Go.Proofs.YtaopopnlnohnpaaDoorW.PrintWords Go.Proofs.YtaopopnlnohnpaaDoorW.PrintLast Go.Proofs.YtaopopnlnohnpaaDoorW.PrintMore
set_option linter.unusedVariables false
set_option linter.unusedSimpArgs false
def strconv_Itoa.f (a0 : Int) : Option ByteArray := if -9223372036854775808 ≤ a0 ∧ a0 ≤ 9223372036854775807 then some ⟨(Lib.itoa a0).toArray⟩ else none
theorem strconv_Itoa.calls (a0 : Int) (r : ByteArray) (w : World) (hG : Glob w) (h : strconv_Itoa.f a0 = some r) :
    Calls Tryd.prog 15 #[.int .i64 a0] w fun e w' => e = .returned (.string r) ∧ Below w.heap.size w w' := by
  unfold strconv_Itoa.f at h
  split at h
  case isFalse => exact absurd h (by simp)
  rename_i hb
  obtain rfl := Option.some.inj h
  refine (Tryd.strconv_Itoa a0 hb.1 hb.2 w hG.pow).mono ?_
  rintro e w' ⟨rfl, k, os, rfl⟩
  exact ⟨rfl, below_grown_ _ k os⟩
end Go.Proofs.YtaopopnlnohnpaaDoor.O
/- Orea -/
namespace Go.Proofs.YtaopopnlnohnpaaDoor.O
open Go.RowKit Go.Proofs.YtaopopnlnohnpaaDoorW.PrintWords Go.Proofs.YtaopopnlnohnpaaDoorW.PrintLast Go.Proofs.YtaopopnlnohnpaaDoorW.PrintMore Go.Proofs.YtaopopnlnohnpaaDoor.P
open Go.Maps Go.WideShapes
set_option linter.unusedVariables false
set_option linter.unusedSimpArgs false
def reasonL : List (Int × List UInt8) := [(200, [79, 75]), (201, [67, 114, 101, 97, 116, 101, 100]), (204, [78, 111, 32, 67, 111, 110, 116, 101, 110, 116]), (304, [78, 111, 116, 32, 77, 111, 100, 105, 102, 105, 101, 100]), (400, [66, 97, 100, 32, 82, 101, 113, 117, 101, 115, 116]), (404, [78, 111, 116, 32, 70, 111, 117, 110, 100]), (405, [77, 101, 116, 104, 111, 100, 32, 78, 111, 116, 32, 65, 108, 108, 111, 119, 101, 100]), (406, [78, 111, 116, 32, 65, 99, 99, 101, 112, 116, 97, 98, 108, 101]), (409, [67, 111, 110, 102, 108, 105, 99, 116]), (412, [80, 114, 101, 99, 111, 110, 100, 105, 116, 105, 111, 110, 32, 70, 97, 105, 108, 101, 100]), (413, [67, 111, 110, 116, 101, 110, 116, 32, 84, 111, 111, 32, 76, 97, 114, 103, 101]), (415, [85, 110, 115, 117, 112, 112, 111, 114, 116, 101, 100, 32, 77, 101, 100, 105, 97, 32, 84, 121, 112, 101]), (431, [82, 101, 113, 117, 101, 115, 116, 32, 72, 101, 97, 100, 101, 114, 32, 70, 105, 101, 108, 100, 115, 32, 84, 111, 111, 32, 76, 97, 114, 103, 101]), (500, [73, 110, 116, 101, 114, 110, 97, 108, 32, 83, 101, 114, 118, 101, 114, 32, 69, 114, 114, 111, 114]), (503, [83, 101, 114, 118, 105, 99, 101, 32, 85, 110, 97, 118, 97, 105, 108, 97, 98, 108, 101]), (507, [73, 110, 115, 117, 102, 102, 105, 99, 105, 101, 110, 116, 32, 83, 116, 111, 114, 97, 103, 101])]
def reasonS (n : Int) : List UInt8 := reasonL.foldl (fun s p => if p.1 = n then p.2 else s) []
def mapD (l : List (Int × List UInt8)) (D : DataW Unit) : DataW Unit := l.foldl (fun D p => D.put (.int .i64 p.1) (.lit (.string p.2))) D
theorem mapD_at (n : Int) (z : DataW Unit) : ∀ (l : List (Int × List UInt8)) (D : DataW Unit) (s : List UInt8), IsMap D → D.atKey (.int .i64 n) z = .lit (.string s) → (mapD l D).atKey (.int .i64 n) z = .lit (.string (l.foldl (fun s p => if p.1 = n then p.2 else s) s))
  | [], D, s, _, h => h
  | p :: l, D, s, hD, h => by
    refine mapD_at n z l _ _ (hD.put _ _) ?_
    show (D.put (.int .i64 p.1) (.lit (.string p.2))).atKey (.int .i64 n) z = .lit (.string (if p.1 = n then p.2 else s))
    by_cases he : p.1 = n
    · rw [if_pos he, he]
      exact atKey_put_same hD (show WideAt.IsKeyLit (.int .i64 n) from trivial) _ _
    · rw [if_neg he, atKey_put_other (fun e => he (by injection e with _ e; exact e.symm))]
      exact h
def Rz (P : Program) (k e : TypeId) (w0 w : World) (n : Nat) (D : DataW Unit) : Prop := w.ownsMap P k (plainElem P e) w0.heap.size n D ∧ Below w0.heap.size w0 w ∧ w0.heap.size < w.heap.size
theorem ins {P : Program} {t k e : TypeId} (ht : P.underlying t = some (.map k e)) (hi : P.underlying k = some (.int .i64)) (he : P.underlying e = some .string) {ops : Array Oper} {rest : List Oper} {o : Oper} {a : Act} {Q : Exit → Act → World → Prop} {w0 w : World} {n : Nat} {D : DataW Unit} (hown : Rz P k e w0 w n D) (hg : o.guard = none) (m x v : Operand) (hop : o.op = Op.insert t m x v)
    (hm : a.eval m = .map (some w0.heap.size)) (hn : n < 100) (c : Int) (s : ByteArray) (hx : a.eval x = .int .i64 c) (hv : a.eval v = .string s) (hc : (Lit.int .i64 c).wf = true) (hs : s.size ≤ 100)
    (hK : ∀ w', Rz P k e w0 w' (n + 1) (D.put (.int .i64 c) (.lit (.string s.data.toList))) → wpList P ops Q rest (a.put o.dst undef) w') : wpList P ops Q (o :: rest) a w := by
  refine wpList_plain hg fun K' hK' => ?_
  obtain ⟨w', hrun, r1, r2⟩ := hown.1.update (int_keyed hi) ht (by unfold maxLen; omega) (keyOf_int_mk hi hc) (plainElem_string he (s := s) (by unfold maxLen; omega))
  unfold Oper.wp
  simp [execOp, hop, hm, hx, hv, hrun, Result.andThen]
  exact hK' _ _ (hK w' ⟨r1, hown.2.1.grown r2 (Nat.le_of_lt hown.2.2) (fun k hk => by cases hk; exact Nat.le_refl _), Nat.lt_of_lt_of_le hown.2.2 r2.size⟩)
theorem looks {P : Program} {t k e : TypeId} (ht : P.underlying t = some (.map k e)) (hi : P.underlying k = some (.int .i64)) (he : P.underlying e = some .string) {ops : Array Oper} {rest : List Oper} {o : Oper} {a : Act} {Q : Exit → Act → World → Prop} {w0 w : World} {n : Nat} {D : DataW Unit} (hown : Rz P k e w0 w n D) (hg : o.guard = none) (m x : Operand) (hop : o.op = Op.lookup t m x false) (hz : (zeroValue e).run P w = .ok (.string ByteArray.empty) w)
    (hm : a.eval m = .map (some w0.heap.size)) (c : Int) (hx : a.eval x = .int .i64 c) (hc : (Lit.int .i64 c).wf = true) (r : List UInt8) (hr : D.atKey (.int .i64 c) (.lit (.string [])) = .lit (.string r))
    (hK : wpList P ops Q rest (a.put o.dst (.string ⟨r.toArray⟩)) w) : wpList P ops Q (o :: rest) a w := by
  refine wpList_plain hg fun K' hK' => ?_
  obtain ⟨v, ps, hrun, hR⟩ := hown.1.lookup (int_keyed hi) ht hz (plainElem_string he (s := ByteArray.empty) zb32) (keyOf_int_mk hi hc)
  obtain ⟨s, rfl, hz2, _⟩ := plainElem_string_inv he hR
  have e1 : D.atKey (.int .i64 c) (.lit (.string [])) = .lit (.string s.data.toList) := (Prod.mk.injEq _ _ _ _ ▸ hz2).1
  rw [hr] at e1
  have e2 : r = s.data.toList := by injection e1 with e1; injection e1
  have e3 : (⟨r.toArray⟩ : ByteArray) = s := by rw [e2]
  rw [e3] at hK
  unfold Oper.wp
  simp [execOp, hop, hm, hx, hrun, Result.andThen]
  exact hK' _ _ hK
def response_Reason.f (a0 : Int) : Option ByteArray := if -9223372036854775808 ≤ a0 ∧ a0 ≤ 9223372036854775807 then some ⟨(reasonS a0).toArray⟩ else none
set_option maxHeartbeats 4000000 in
set_option maxRecDepth 100000 in
theorem response_Reason.calls (a0 : Int) (r : ByteArray) (w : World) (h : response_Reason.f a0 = some r) :
    Calls Tryd.prog 7 #[.int .i64 a0] w fun e w' => e = .returned (.string r) ∧ Below w.heap.size w w' := by
  unfold response_Reason.f at h
  split at h
  case isFalse => exact absurd h (by simp)
  rename_i hb
  obtain rfl := Option.some.inj h
  have hc : (Lit.int .i64 a0).wf = true := WalkArith.wf_i64 zb26
  have hmm := @run_makeMap Tryd.prog
  have h0 : Rz Tryd.prog 3 9 w (w.alloc (.map #[] 0)) 0 (.map []) := ⟨World.ownsMap_made _ _ _ _, below_alloc (Below.refl _ _) _, by rw [World.alloc]; simp⟩
  have hat := mapD_at a0 (.lit (.string [])) reasonL (.map []) [] isMap_empty rfl
  go_enter Tryd.func7, Tryd.ntmps7
  go_wp2_with (first | (refine ins Tryd.underlying40 Tryd.underlying3 Tryd.underlying9 h0 rfl _ _ _ rfl rfl zb26 _ _ rfl rfl zb32 zb32 ?_; intro w1 hown1; clear h0; have h0 := hown1; clear hown1) | (refine looks Tryd.underlying40 Tryd.underlying3 Tryd.underlying9 h0 rfl _ _ rfl zb11 rfl _ rfl hc _ hat ?_))
  go_ret
  exact ⟨rfl, h0.2.1⟩
end Go.Proofs.YtaopopnlnohnpaaDoor.O
/- Px8 -/
namespace Go.Proofs.YtaopopnlnohnpaaDoor.P
open Go.Proofs.YtaopopnlnohnpaaDoor.B
open Go.RowKit Go.Proofs.YtaopopnlnohnpaaDoorW.PrintWords Go.Proofs.YtaopopnlnohnpaaDoorW.PrintLast Go.Proofs.YtaopopnlnohnpaaDoorW.PrintMore
attribute [local go_sem] str_leq str_gtr str_geq max2_int min2_int max_two min_two max_three min_three max_four min_four
set_option linter.unusedVariables false
set_option linter.unusedSimpArgs false
open Go.Proofs.YtaopopnlnohnpaaDoor.O
def response_first.f (a0 : Int) : Option (ByteArray) := (strconv_Itoa.f a0).bind fun t133 => (if 9 + t133.size ≤ 9223372036854775807 then (if ((⟨#[72, 84, 84, 80, 47, 49, 46, 49, 32]⟩ : ByteArray) ++ t133).size + 1 ≤ 9223372036854775807 then ((response_Reason.f a0).bind fun t134 => (if (((⟨#[72, 84, 84, 80, 47, 49, 46, 49, 32]⟩ : ByteArray) ++ t133) ++ (⟨#[32]⟩ : ByteArray)).size + t134.size ≤ 9223372036854775807 then (some ((((⟨#[72, 84, 84, 80, 47, 49, 46, 49, 32]⟩ : ByteArray) ++ t133) ++ (⟨#[32]⟩ : ByteArray)) ++ t134)) else (none))) else (none)) else (none))
set_option maxHeartbeats 8000000 in
set_option maxRecDepth 100000 in
theorem response_first.calls (a0 : Int) (r : ByteArray) (w : World) (hG : Glob w) (h : response_first.f a0 = some r) :
  Calls Tryd.prog 17 #[.int .i64 a0] w fun e w' => e = .returned (.string r) ∧ Below w.heap.size w w' := by
 have HB := Aside0.mk (Below.refl w.heap.size w)
 have hGA := Aside0.mk hG
 clear hG
 have H : ((strconv_Itoa.f a0).bind fun t133 => (if 9 + t133.size ≤ 9223372036854775807 then (if ((⟨#[72, 84, 84, 80, 47, 49, 46, 49, 32]⟩ : ByteArray) ++ t133).size + 1 ≤ 9223372036854775807 then ((response_Reason.f a0).bind fun t134 => (if (((⟨#[72, 84, 84, 80, 47, 49, 46, 49, 32]⟩ : ByteArray) ++ t133) ++ (⟨#[32]⟩ : ByteArray)).size + t134.size ≤ 9223372036854775807 then (some ((((⟨#[72, 84, 84, 80, 47, 49, 46, 49, 32]⟩ : ByteArray) ++ t133) ++ (⟨#[32]⟩ : ByteArray)) ++ t134)) else (none))) else (none)) else (none))) = some r := h
 clear h
 replace H := Option.bind_eq_some_iff.mp H
 obtain ⟨t133, A20, H⟩ := H
 replace H : (if 9 + t133.size ≤ 9223372036854775807 then (if ((⟨#[72, 84, 84, 80, 47, 49, 46, 49, 32]⟩ : ByteArray) ++ t133).size + 1 ≤ 9223372036854775807 then ((response_Reason.f a0).bind fun t134 => (if (((⟨#[72, 84, 84, 80, 47, 49, 46, 49, 32]⟩ : ByteArray) ++ t133) ++ (⟨#[32]⟩ : ByteArray)).size + t134.size ≤ 9223372036854775807 then (some ((((⟨#[72, 84, 84, 80, 47, 49, 46, 49, 32]⟩ : ByteArray) ++ t133) ++ (⟨#[32]⟩ : ByteArray)) ++ t134)) else (none))) else (none)) else (none)) = some r := H
 have A2 := Aside0.mk A20
 clear A20
 by_cases c3 : 9 + t133.size ≤ 9223372036854775807
 ·rw [if_pos c3] at H
  have c3b0 := eq_true c3
  have c3b1 : decide (9 + t133.size ≤ 9223372036854775807) = true := decide_eq_true c3
  try have c3b2 : (9223372036854775807 < 9 + t133.size) = False := eq_false (Nat.not_lt.2 c3)
  by_cases c4 : ((⟨#[72, 84, 84, 80, 47, 49, 46, 49, 32]⟩ : ByteArray) ++ t133).size + 1 ≤ 9223372036854775807
  ·rw [if_pos c4] at H
   have c4b0 := eq_true c4
   have c4b1 : decide (((⟨#[72, 84, 84, 80, 47, 49, 46, 49, 32]⟩ : ByteArray) ++ t133).size + 1 ≤ 9223372036854775807) = true := decide_eq_true c4
   try have c4b2 : (9223372036854775807 < ((⟨#[72, 84, 84, 80, 47, 49, 46, 49, 32]⟩ : ByteArray) ++ t133).size + 1) = False := eq_false (Nat.not_lt.2 c4)
   obtain ⟨nc4, hc4⟩ : ∃ n_ : Nat, n_ = ((⟨#[72, 84, 84, 80, 47, 49, 46, 49, 32]⟩ : ByteArray) ++ t133).size + 1 := ⟨_, rfl⟩
   have c4m0 : nc4 ≤ 9223372036854775807 := by rw [hc4]; exact c4
   (first | simp [go_sem, c3b0] at hc4 | simp [go_sem] at hc4 | skip)
   rw [hc4] at c4m0
   have c4m1 := eq_false (Nat.not_lt.2 c4m0)
   have c4m2 := decide_eq_true c4m0
   clear hc4 c4m0
   replace H := Option.bind_eq_some_iff.mp H
   obtain ⟨t134, A50, H⟩ := H
   replace H : (if (((⟨#[72, 84, 84, 80, 47, 49, 46, 49, 32]⟩ : ByteArray) ++ t133) ++ (⟨#[32]⟩ : ByteArray)).size + t134.size ≤ 9223372036854775807 then (some ((((⟨#[72, 84, 84, 80, 47, 49, 46, 49, 32]⟩ : ByteArray) ++ t133) ++ (⟨#[32]⟩ : ByteArray)) ++ t134)) else (none)) = some r := H
   have A5 := Aside0.mk A50
   clear A50
   by_cases c6 : (((⟨#[72, 84, 84, 80, 47, 49, 46, 49, 32]⟩ : ByteArray) ++ t133) ++ (⟨#[32]⟩ : ByteArray)).size + t134.size ≤ 9223372036854775807
   ·rw [if_pos c6] at H
    have c6b0 := eq_true c6
    have c6b1 : decide ((((⟨#[72, 84, 84, 80, 47, 49, 46, 49, 32]⟩ : ByteArray) ++ t133) ++ (⟨#[32]⟩ : ByteArray)).size + t134.size ≤ 9223372036854775807) = true := decide_eq_true c6
    try have c6b2 : (9223372036854775807 < (((⟨#[72, 84, 84, 80, 47, 49, 46, 49, 32]⟩ : ByteArray) ++ t133) ++ (⟨#[32]⟩ : ByteArray)).size + t134.size) = False := eq_false (Nat.not_lt.2 c6)
    obtain ⟨nc6, hc6⟩ : ∃ n_ : Nat, n_ = (((⟨#[72, 84, 84, 80, 47, 49, 46, 49, 32]⟩ : ByteArray) ++ t133) ++ (⟨#[32]⟩ : ByteArray)).size + t134.size := ⟨_, rfl⟩
    have c6m0 : nc6 ≤ 9223372036854775807 := by rw [hc6]; exact c6
    (first | simp [go_sem, c3b0, c4b0] at hc6 | simp [go_sem] at hc6 | skip)
    rw [hc6] at c6m0
    have c6m1 := eq_false (Nat.not_lt.2 c6m0)
    have c6m2 := decide_eq_true c6m0
    clear hc6 c6m0
    obtain rfl := Option.some.inj H
    go_enter Tryd.func17, Tryd.ntmps17
    go_wp2_with (first | ((with_reducible refine gate_callee (f := 15) rfl ?_); refine goesL_ (some 4) rfl rfl Tryd.func15 zb11 rfl #[.int .i64 a0] rfl zb1 ?_; (with_reducible refine (strconv_Itoa.calls a0 t133 _ ?side1 A2.out).mono ?_); (case side1 => exact Glob.below hGA.out zb0); rintro e w7 ⟨rfl, hb⟩; refine ⟨_, rfl, ?_⟩; have n0_ := Aside0.mk (below_step zb0 hb); clear HB; have HB := n0_; clear n0_; (try clear hb); (try clear hb2); (try clear hk); (try clear hi)) | ((with_reducible refine gate_callee (f := 7) rfl ?_); refine goesL_ (some 8) rfl rfl Tryd.func7 zb11 rfl #[.int .i64 a0] rfl zb1 ?_; (with_reducible refine (response_Reason.calls a0 t134 _ A5.out).mono ?_); rintro e w8 ⟨rfl, hb⟩; refine ⟨_, rfl, ?_⟩; have n0_ := Aside0.mk (below_step zb0 hb); clear HB; have HB := n0_; clear n0_; (try clear hb); (try clear hb2); (try clear hk); (try clear hi)))
    go_ret
    exact ⟨zb8, zb0⟩
   ·rw [if_neg c6] at H
    exact absurd H (by simp)
  ·rw [if_neg c4] at H
   exact absurd H (by simp)
 ·rw [if_neg c3] at H
  exact absurd H (by simp)
end Go.Proofs.YtaopopnlnohnpaaDoor.P
/- Oato -/
namespace Go.Proofs.YtaopopnlnohnpaaDoor.O
open Go.RowKit Go.Proofs.YtaopopnlnohnpaaDoorW.PrintWords Go.Proofs.YtaopopnlnohnpaaDoorW.PrintLast Go.Proofs.YtaopopnlnohnpaaDoorW.PrintMore
set_option linter.unusedVariables false
set_option linter.unusedSimpArgs false
def atoiF (l : List UInt8) : Int × Option Int := match Lib.atoiAll l with
  | .ok v => (v, none)
  | Lib.NumEnd.syntax => (0, some 0)
  | .range => (Lib.atoiSat l, some 1)
def strconv_Atoi.f (a0 : ByteArray) : Option (Int × Option Int) := if a0.size ≤ 281474976710656 then some (atoiF a0.data.toList) else none
theorem strconv_Atoi.calls (a0 : ByteArray) (r1 : Int) (r2 : Option Int) (w : World) (hG : Glob w) (h : strconv_Atoi.f a0 = some (r1, r2)) :
    Calls Tryd.prog 31 #[.string a0] w fun e w' => ∃ pv, ErrIs r2 pv ∧ e = .returned (.tuple #[.int .i64 r1, pv]) ∧ Below w.heap.size w w' := by
  unfold strconv_Atoi.f at h
  split at h
  case isFalse => exact absurd h (by simp)
  rename_i hb
  have h' := Option.some.inj h
  unfold atoiF at h'
  split at h'
  · rename_i v hv
    obtain ⟨rfl, rfl⟩ := Prod.mk.inj h'
    refine (Tryd.strconv_Atoi_ok a0 zb26 v hv w).mono ?_
    rintro e w' ⟨rfl, rfl | ⟨t, rfl⟩⟩
    · exact ⟨_, rfl, rfl, Below.refl _ _⟩
    · exact ⟨_, rfl, rfl, below_bytes _ _ _⟩
  · rename_i hv
    obtain ⟨rfl, rfl⟩ := Prod.mk.inj h'
    obtain ⟨t, p, hs⟩ := hG.syn
    refine (Tryd.strconv_Atoi_syntax_var a0 hb hv t p w hs).mono ?_
    rintro e w' ⟨n, rfl, _, _, hbel⟩
    exact ⟨_, ⟨_, _, rfl⟩, rfl, hbel⟩
  · rename_i hv
    obtain ⟨rfl, rfl⟩ := Prod.mk.inj h'
    obtain ⟨t, p, hs⟩ := hG.rng
    refine (Tryd.strconv_Atoi_range_var a0 hb hv t p w hs).mono ?_
    rintro e w' ⟨n, rfl, _, _, hbel⟩
    exact ⟨_, ⟨_, _, rfl⟩, rfl, hbel⟩
theorem below_drewN_ (w : World) (n : Nat) : Below w.heap.size w (w.drewN n) := ⟨rfl, rfl, rfl, Nat.le_refl _, fun _ _ => rfl⟩
def cutF (s sep : ByteArray) : ByteArray × ByteArray × Bool := (⟨(Lib.cut s.data.toList sep.data.toList).1.toArray⟩, ⟨(Lib.cut s.data.toList sep.data.toList).2.1.toArray⟩, (Lib.cut s.data.toList sep.data.toList).2.2)
def strings_Cut.f (a0 a1 : ByteArray) : Option (ByteArray × ByteArray × Bool) := if a0.size < 4294967281 then some (cutF a0 a1) else none
theorem strings_Cut.calls (a0 a1 : ByteArray) (r1 r2 : ByteArray) (r3 : Bool) (w : World) (hG : Glob w) (h : strings_Cut.f a0 a1 = some (r1, r2, r3)) :
    Calls Tryd.prog 18 #[.string a0, .string a1] w fun e w' => e = .returned (.tuple #[.string r1, .string r2, .bool r3]) ∧ Below w.heap.size w w' := by
  unfold strings_Cut.f at h
  split at h
  case isFalse => exact absurd h (by simp)
  rename_i hb
  have h' := Option.some.inj h
  unfold cutF at h'
  obtain ⟨e1, e23⟩ := Prod.mk.inj h'
  obtain ⟨e2, e3⟩ := Prod.mk.inj e23
  subst e1; subst e2; subst e3
  obtain ⟨m, hm⟩ := hG.cell
  refine (Tryd.strings_Cut a0 a1 m w hb hm).mono ?_
  rintro e w' ⟨rfl, n, rfl⟩
  exact ⟨rfl, below_drewN_ _ _⟩
def strings_IndexByte.f (a0 : ByteArray) (a1 : Int) : Option Int := some (Lib.indexByte a0.data.toList a1.toNat.toUInt8)
theorem strings_IndexByte.calls (a0 : ByteArray) (a1 : Int) (r : Int) (w : World) (h : strings_IndexByte.f a0 a1 = some r) :
    Calls Tryd.prog 50 #[.string a0, .int .u8 a1] w fun e w' => e = .returned (.int .i64 r) ∧ Drawn0 w w' := by
  obtain rfl := Option.some.inj h
  refine (Tryd.strings_IndexByte a0 a1 w).mono ?_
  rintro e w' ⟨rfl, rfl⟩
  exact ⟨rfl, Drawn0.refl _⟩
def strings_TrimPrefix.f (a0 a1 : ByteArray) : Option ByteArray := some ⟨(Lib.trimPrefix a0.data.toList a1.data.toList).toArray⟩
theorem strings_TrimPrefix.calls (a0 a1 : ByteArray) (r : ByteArray) (w : World) (h : strings_TrimPrefix.f a0 a1 = some r) :
    Calls Tryd.prog 30 #[.string a0, .string a1] w fun e w' => e = .returned (.string r) ∧ Below w.heap.size w w' := by
  obtain rfl := Option.some.inj h
  refine (Tryd.strings_TrimPrefix a0 a1 w).mono ?_
  rintro e w' ⟨rfl, rfl⟩
  exact ⟨rfl, Below.refl _ _⟩
end Go.Proofs.YtaopopnlnohnpaaDoor.O
/- Px9 -/
namespace Go.Proofs.YtaopopnlnohnpaaDoor.P
open Go.Proofs.YtaopopnlnohnpaaDoor.B
open Go.RowKit Go.Proofs.YtaopopnlnohnpaaDoorW.PrintWords Go.Proofs.YtaopopnlnohnpaaDoorW.PrintLast Go.Proofs.YtaopopnlnohnpaaDoorW.PrintMore
attribute [local go_sem] str_leq str_gtr str_geq max2_int min2_int max_two min_two max_three min_three max_four min_four
set_option linter.unusedVariables false
set_option linter.unusedSimpArgs false
open Go.Proofs.YtaopopnlnohnpaaDoor.O
def response_status.f (a0 : ByteArray) : Option (Int) := (strings_TrimPrefix.f a0 (⟨#[72, 84, 84, 80, 47, 49, 46, 49, 32]⟩ : ByteArray)).bind fun t135 => ((strings_Cut.f t135 (⟨#[32]⟩ : ByteArray)).bind fun bt136 => ((strconv_Atoi.f bt136.1).bind fun bt139 => (if bt139.2.isNone = true then ((response_Reason.f bt139.1).bind fun t142 => (if t142.toList = ([] : List UInt8) then (some 0) else ((response_first.f bt139.1).bind fun t143 => (if t143.toList = a0.toList then (some bt139.1) else (some 0))))) else ((response_Reason.f bt139.1).bind fun t144 => (if t144.toList = ([] : List UInt8) then (some 0) else ((response_first.f bt139.1).bind fun t145 => (if t145.toList = a0.toList then (some bt139.1) else (some 0))))))))
set_option maxHeartbeats 8000000 in
set_option maxRecDepth 100000 in
theorem response_status.calls (a0 : ByteArray) (r : Int) (w : World) (hG : Glob w) (h : response_status.f a0 = some r) :
  Calls Tryd.prog 19 #[.string a0] w fun e w' => e = .returned (.int .i64 r) ∧ Below w.heap.size w w' := by
 have HB := Aside0.mk (Below.refl w.heap.size w)
 have hGA := Aside0.mk hG
 clear hG
 have H : ((strings_TrimPrefix.f a0 (⟨#[72, 84, 84, 80, 47, 49, 46, 49, 32]⟩ : ByteArray)).bind fun t135 => ((strings_Cut.f t135 (⟨#[32]⟩ : ByteArray)).bind fun bt136 => ((strconv_Atoi.f bt136.1).bind fun bt139 => (if bt139.2.isNone = true then ((response_Reason.f bt139.1).bind fun t142 => (if t142.toList = ([] : List UInt8) then (some 0) else ((response_first.f bt139.1).bind fun t143 => (if t143.toList = a0.toList then (some bt139.1) else (some 0))))) else ((response_Reason.f bt139.1).bind fun t144 => (if t144.toList = ([] : List UInt8) then (some 0) else ((response_first.f bt139.1).bind fun t145 => (if t145.toList = a0.toList then (some bt139.1) else (some 0))))))))) = some r := h
 clear h
 replace H := Option.bind_eq_some_iff.mp H
 obtain ⟨t135, A20, H⟩ := H
 replace H : ((strings_Cut.f t135 (⟨#[32]⟩ : ByteArray)).bind fun bt136 => ((strconv_Atoi.f bt136.1).bind fun bt139 => (if bt139.2.isNone = true then ((response_Reason.f bt139.1).bind fun t142 => (if t142.toList = ([] : List UInt8) then (some 0) else ((response_first.f bt139.1).bind fun t143 => (if t143.toList = a0.toList then (some bt139.1) else (some 0))))) else ((response_Reason.f bt139.1).bind fun t144 => (if t144.toList = ([] : List UInt8) then (some 0) else ((response_first.f bt139.1).bind fun t145 => (if t145.toList = a0.toList then (some bt139.1) else (some 0)))))))) = some r := H
 have A2 := Aside0.mk A20
 clear A20
 replace H := Option.bind_eq_some_iff.mp H
 obtain ⟨⟨t136, t137, t138⟩, A30, H⟩ := H
 replace H : ((strconv_Atoi.f t136).bind fun bt139 => (if bt139.2.isNone = true then ((response_Reason.f bt139.1).bind fun t142 => (if t142.toList = ([] : List UInt8) then (some 0) else ((response_first.f bt139.1).bind fun t143 => (if t143.toList = a0.toList then (some bt139.1) else (some 0))))) else ((response_Reason.f bt139.1).bind fun t144 => (if t144.toList = ([] : List UInt8) then (some 0) else ((response_first.f bt139.1).bind fun t145 => (if t145.toList = a0.toList then (some bt139.1) else (some 0))))))) = some r := H
 have A3 := Aside0.mk A30
 clear A30
 replace H := Option.bind_eq_some_iff.mp H
 obtain ⟨⟨t139, t140⟩, A40, H⟩ := H
 replace H : (if t140.isNone = true then ((response_Reason.f t139).bind fun t142 => (if t142.toList = ([] : List UInt8) then (some 0) else ((response_first.f t139).bind fun t143 => (if t143.toList = a0.toList then (some t139) else (some 0))))) else ((response_Reason.f t139).bind fun t144 => (if t144.toList = ([] : List UInt8) then (some 0) else ((response_first.f t139).bind fun t145 => (if t145.toList = a0.toList then (some t139) else (some 0)))))) = some r := H
 have A4 := Aside0.mk A40
 clear A40
 rcases t140 with _ | q141
 ·have H1 : ((response_Reason.f t139).bind fun t142 => (if t142.toList = ([] : List UInt8) then (some 0) else ((response_first.f t139).bind fun t143 => (if t143.toList = a0.toList then (some t139) else (some 0))))) = some r := by rw [if_pos (show (none : Option Int).isNone = true by rfl)] at H; exact H
  clear H
  have H := H1
  clear H1
  try simp only [errW_none, errW_some]
  replace H := Option.bind_eq_some_iff.mp H
  obtain ⟨t142, A50, H⟩ := H
  replace H : (if t142.toList = ([] : List UInt8) then (some 0) else ((response_first.f t139).bind fun t143 => (if t143.toList = a0.toList then (some t139) else (some 0)))) = some r := H
  have A5 := Aside0.mk A50
  clear A50
  by_cases c6 : t142.toList = ([] : List UInt8)
  ·rw [if_pos c6] at H
   have c6b0 : (t142.toList == ([] : List UInt8)) = true := beq_iff_eq.mpr c6
   have c6b1 : (t142.toList != ([] : List UInt8)) = false := bne_eq_false_iff_eq.mpr c6
   clear c6
   obtain rfl := Option.some.inj H
   go_enter Tryd.func19, Tryd.ntmps19
   go_wp2_with (first | ((with_reducible refine gate_callee (f := 30) rfl ?_); refine goesL_ (some 10) rfl rfl Tryd.func30 zb11 rfl #[.string a0, .string (⟨#[72, 84, 84, 80, 47, 49, 46, 49, 32]⟩ : ByteArray)] rfl zb1 ?_; (with_reducible refine (strings_TrimPrefix.calls a0 (⟨#[72, 84, 84, 80, 47, 49, 46, 49, 32]⟩ : ByteArray) t135 _ A2.out).mono ?_); rintro e w7 ⟨rfl, hb⟩; refine ⟨_, rfl, ?_⟩; have n0_ := Aside0.mk (below_step zb0 hb); clear HB; have HB := n0_; clear n0_; (try clear hb); (try clear hb2); (try clear hk); (try clear hi)) | ((with_reducible refine gate_callee (f := 18) rfl ?_); refine goesL_ (some 11) rfl rfl Tryd.func18 zb11 rfl #[.string t135, .string (⟨#[32]⟩ : ByteArray)] rfl zb1 ?_; (with_reducible refine (strings_Cut.calls t135 (⟨#[32]⟩ : ByteArray) t136 t137 t138 _ ?side1 A3.out).mono ?_); (case side1 => exact Glob.below hGA.out zb0); rintro e w8 ⟨rfl, hb⟩; refine ⟨_, rfl, ?_⟩; have n0_ := Aside0.mk (below_step zb0 hb); clear HB; have HB := n0_; clear n0_; (try clear hb); (try clear hb2); (try clear hk); (try clear hi)) | ((with_reducible refine gate_callee (f := 31) rfl ?_); refine goesL_ (some 17) rfl rfl Tryd.func31 zb11 rfl #[.string t136] rfl zb1 ?_; (with_reducible refine (strconv_Atoi.calls t136 t139 none _ ?side1 A4.out).mono ?_); (case side1 => exact Glob.below hGA.out zb0); rintro e w9 ⟨pv10, hpv10, rfl, hb⟩; refine ⟨_, rfl, ?_⟩; obtain rfl := ErrIs.none_ hpv10; have n0_ := Aside0.mk (below_step zb0 hb); clear HB; have HB := n0_; clear n0_; (try clear hb); (try clear hb2); (try clear hk); (try clear hi); (try simp only [errW_none, errW_some])) | ((with_reducible refine gate_callee (f := 7) rfl ?_); refine goesL_ (some 21) rfl rfl Tryd.func7 zb11 rfl #[.int .i64 t139] rfl zb1 ?_; (with_reducible refine (response_Reason.calls t139 t142 _ A5.out).mono ?_); rintro e w11 ⟨rfl, hb⟩; refine ⟨_, rfl, ?_⟩; have n0_ := Aside0.mk (below_step zb0 hb); clear HB; have HB := n0_; clear n0_; (try clear hb); (try clear hb2); (try clear hk); (try clear hi)))
   go_ret
   exact ⟨zb8, zb0⟩
  ·rw [if_neg c6] at H
   have c6b0 : (t142.toList == ([] : List UInt8)) = false := beq_eq_false_iff_ne.mpr c6
   have c6b1 : (t142.toList != ([] : List UInt8)) = true := bne_iff_ne.mpr c6
   replace H := Option.bind_eq_some_iff.mp H
   obtain ⟨t143, A120, H⟩ := H
   replace H : (if t143.toList = a0.toList then (some t139) else (some 0)) = some r := H
   have A12 := Aside0.mk A120
   clear A120
   by_cases c13 : t143.toList = a0.toList
   ·rw [if_pos c13] at H
    have c13b0 : (t143.toList == a0.toList) = true := beq_iff_eq.mpr c13
    have c13b1 : (t143.toList != a0.toList) = false := bne_eq_false_iff_eq.mpr c13
    clear c13
    obtain rfl := Option.some.inj H
    go_enter Tryd.func19, Tryd.ntmps19
    go_wp2_with (first | ((with_reducible refine gate_callee (f := 30) rfl ?_); refine goesL_ (some 10) rfl rfl Tryd.func30 zb11 rfl #[.string a0, .string (⟨#[72, 84, 84, 80, 47, 49, 46, 49, 32]⟩ : ByteArray)] rfl zb1 ?_; (with_reducible refine (strings_TrimPrefix.calls a0 (⟨#[72, 84, 84, 80, 47, 49, 46, 49, 32]⟩ : ByteArray) t135 _ A2.out).mono ?_); rintro e w14 ⟨rfl, hb⟩; refine ⟨_, rfl, ?_⟩; have n0_ := Aside0.mk (below_step zb0 hb); clear HB; have HB := n0_; clear n0_; (try clear hb); (try clear hb2); (try clear hk); (try clear hi)) | ((with_reducible refine gate_callee (f := 18) rfl ?_); refine goesL_ (some 11) rfl rfl Tryd.func18 zb11 rfl #[.string t135, .string (⟨#[32]⟩ : ByteArray)] rfl zb1 ?_; (with_reducible refine (strings_Cut.calls t135 (⟨#[32]⟩ : ByteArray) t136 t137 t138 _ ?side1 A3.out).mono ?_); (case side1 => exact Glob.below hGA.out zb0); rintro e w15 ⟨rfl, hb⟩; refine ⟨_, rfl, ?_⟩; have n0_ := Aside0.mk (below_step zb0 hb); clear HB; have HB := n0_; clear n0_; (try clear hb); (try clear hb2); (try clear hk); (try clear hi)) | ((with_reducible refine gate_callee (f := 31) rfl ?_); refine goesL_ (some 17) rfl rfl Tryd.func31 zb11 rfl #[.string t136] rfl zb1 ?_; (with_reducible refine (strconv_Atoi.calls t136 t139 none _ ?side1 A4.out).mono ?_); (case side1 => exact Glob.below hGA.out zb0); rintro e w16 ⟨pv17, hpv17, rfl, hb⟩; refine ⟨_, rfl, ?_⟩; obtain rfl := ErrIs.none_ hpv17; have n0_ := Aside0.mk (below_step zb0 hb); clear HB; have HB := n0_; clear n0_; (try clear hb); (try clear hb2); (try clear hk); (try clear hi); (try simp only [errW_none, errW_some])) | ((with_reducible refine gate_callee (f := 7) rfl ?_); refine goesL_ (some 21) rfl rfl Tryd.func7 zb11 rfl #[.int .i64 t139] rfl zb1 ?_; (with_reducible refine (response_Reason.calls t139 t142 _ A5.out).mono ?_); rintro e w18 ⟨rfl, hb⟩; refine ⟨_, rfl, ?_⟩; have n0_ := Aside0.mk (below_step zb0 hb); clear HB; have HB := n0_; clear n0_; (try clear hb); (try clear hb2); (try clear hk); (try clear hi)) | (go_at_call 17; (with_reducible refine (response_first.calls t139 t143 _ ?side1 A12.out).mono ?_); (case side1 => exact Glob.below hGA.out zb0); rintro e w19 ⟨rfl, hb⟩; have n0_ := Aside0.mk (below_step zb0 hb); clear HB; have HB := n0_; clear n0_; (try clear hb); (try clear hb2); (try clear hk); (try clear hi)))
    go_ret
    exact ⟨zb8, zb0⟩
   ·rw [if_neg c13] at H
    have c13b0 : (t143.toList == a0.toList) = false := beq_eq_false_iff_ne.mpr c13
    have c13b1 : (t143.toList != a0.toList) = true := bne_iff_ne.mpr c13
    obtain rfl := Option.some.inj H
    go_enter Tryd.func19, Tryd.ntmps19
    go_wp2_with (first | ((with_reducible refine gate_callee (f := 30) rfl ?_); refine goesL_ (some 10) rfl rfl Tryd.func30 zb11 rfl #[.string a0, .string (⟨#[72, 84, 84, 80, 47, 49, 46, 49, 32]⟩ : ByteArray)] rfl zb1 ?_; (with_reducible refine (strings_TrimPrefix.calls a0 (⟨#[72, 84, 84, 80, 47, 49, 46, 49, 32]⟩ : ByteArray) t135 _ A2.out).mono ?_); rintro e w20 ⟨rfl, hb⟩; refine ⟨_, rfl, ?_⟩; have n0_ := Aside0.mk (below_step zb0 hb); clear HB; have HB := n0_; clear n0_; (try clear hb); (try clear hb2); (try clear hk); (try clear hi)) | ((with_reducible refine gate_callee (f := 18) rfl ?_); refine goesL_ (some 11) rfl rfl Tryd.func18 zb11 rfl #[.string t135, .string (⟨#[32]⟩ : ByteArray)] rfl zb1 ?_; (with_reducible refine (strings_Cut.calls t135 (⟨#[32]⟩ : ByteArray) t136 t137 t138 _ ?side1 A3.out).mono ?_); (case side1 => exact Glob.below hGA.out zb0); rintro e w21 ⟨rfl, hb⟩; refine ⟨_, rfl, ?_⟩; have n0_ := Aside0.mk (below_step zb0 hb); clear HB; have HB := n0_; clear n0_; (try clear hb); (try clear hb2); (try clear hk); (try clear hi)) | ((with_reducible refine gate_callee (f := 31) rfl ?_); refine goesL_ (some 17) rfl rfl Tryd.func31 zb11 rfl #[.string t136] rfl zb1 ?_; (with_reducible refine (strconv_Atoi.calls t136 t139 none _ ?side1 A4.out).mono ?_); (case side1 => exact Glob.below hGA.out zb0); rintro e w22 ⟨pv23, hpv23, rfl, hb⟩; refine ⟨_, rfl, ?_⟩; obtain rfl := ErrIs.none_ hpv23; have n0_ := Aside0.mk (below_step zb0 hb); clear HB; have HB := n0_; clear n0_; (try clear hb); (try clear hb2); (try clear hk); (try clear hi); (try simp only [errW_none, errW_some])) | ((with_reducible refine gate_callee (f := 7) rfl ?_); refine goesL_ (some 21) rfl rfl Tryd.func7 zb11 rfl #[.int .i64 t139] rfl zb1 ?_; (with_reducible refine (response_Reason.calls t139 t142 _ A5.out).mono ?_); rintro e w24 ⟨rfl, hb⟩; refine ⟨_, rfl, ?_⟩; have n0_ := Aside0.mk (below_step zb0 hb); clear HB; have HB := n0_; clear n0_; (try clear hb); (try clear hb2); (try clear hk); (try clear hi)) | (go_at_call 17; (with_reducible refine (response_first.calls t139 t143 _ ?side1 A12.out).mono ?_); (case side1 => exact Glob.below hGA.out zb0); rintro e w25 ⟨rfl, hb⟩; have n0_ := Aside0.mk (below_step zb0 hb); clear HB; have HB := n0_; clear n0_; (try clear hb); (try clear hb2); (try clear hk); (try clear hi)))
    go_ret
    exact ⟨zb8, zb0⟩
 ·have H1 : ((response_Reason.f t139).bind fun t144 => (if t144.toList = ([] : List UInt8) then (some 0) else ((response_first.f t139).bind fun t145 => (if t145.toList = a0.toList then (some t139) else (some 0))))) = some r := by rw [if_neg (show ¬ (some q141).isNone = true by simp)] at H; exact H
  clear H
  have H := H1
  clear H1
  try simp only [errW_none, errW_some]
  replace H := Option.bind_eq_some_iff.mp H
  obtain ⟨t144, A260, H⟩ := H
  replace H : (if t144.toList = ([] : List UInt8) then (some 0) else ((response_first.f t139).bind fun t145 => (if t145.toList = a0.toList then (some t139) else (some 0)))) = some r := H
  have A26 := Aside0.mk A260
  clear A260
  by_cases c27 : t144.toList = ([] : List UInt8)
  ·rw [if_pos c27] at H
   have c27b0 : (t144.toList == ([] : List UInt8)) = true := beq_iff_eq.mpr c27
   have c27b1 : (t144.toList != ([] : List UInt8)) = false := bne_eq_false_iff_eq.mpr c27
   clear c27
   obtain rfl := Option.some.inj H
   go_enter Tryd.func19, Tryd.ntmps19
   go_wp2_with (first | ((with_reducible refine gate_callee (f := 30) rfl ?_); refine goesL_ (some 10) rfl rfl Tryd.func30 zb11 rfl #[.string a0, .string (⟨#[72, 84, 84, 80, 47, 49, 46, 49, 32]⟩ : ByteArray)] rfl zb1 ?_; (with_reducible refine (strings_TrimPrefix.calls a0 (⟨#[72, 84, 84, 80, 47, 49, 46, 49, 32]⟩ : ByteArray) t135 _ A2.out).mono ?_); rintro e w28 ⟨rfl, hb⟩; refine ⟨_, rfl, ?_⟩; have n0_ := Aside0.mk (below_step zb0 hb); clear HB; have HB := n0_; clear n0_; (try clear hb); (try clear hb2); (try clear hk); (try clear hi)) | ((with_reducible refine gate_callee (f := 18) rfl ?_); refine goesL_ (some 11) rfl rfl Tryd.func18 zb11 rfl #[.string t135, .string (⟨#[32]⟩ : ByteArray)] rfl zb1 ?_; (with_reducible refine (strings_Cut.calls t135 (⟨#[32]⟩ : ByteArray) t136 t137 t138 _ ?side1 A3.out).mono ?_); (case side1 => exact Glob.below hGA.out zb0); rintro e w29 ⟨rfl, hb⟩; refine ⟨_, rfl, ?_⟩; have n0_ := Aside0.mk (below_step zb0 hb); clear HB; have HB := n0_; clear n0_; (try clear hb); (try clear hb2); (try clear hk); (try clear hi)) | ((with_reducible refine gate_callee (f := 31) rfl ?_); refine goesL_ (some 17) rfl rfl Tryd.func31 zb11 rfl #[.string t136] rfl zb1 ?_; (with_reducible refine (strconv_Atoi.calls t136 t139 (some q141) _ ?side1 A4.out).mono ?_); (case side1 => exact Glob.below hGA.out zb0); rintro e w30 ⟨pv31, hpv31, rfl, hb⟩; refine ⟨_, rfl, ?_⟩; obtain ⟨tpv31, ppv31, rfl⟩ := ErrIs.some_ hpv31; have n0_ := Aside0.mk (below_step zb0 hb); clear HB; have HB := n0_; clear n0_; (try clear hb); (try clear hb2); (try clear hk); (try clear hi); (try simp only [errW_none, errW_some])) | ((with_reducible refine gate_callee (f := 7) rfl ?_); refine goesL_ (some 21) rfl rfl Tryd.func7 zb11 rfl #[.int .i64 t139] rfl zb1 ?_; (with_reducible refine (response_Reason.calls t139 t144 _ A26.out).mono ?_); rintro e w32 ⟨rfl, hb⟩; refine ⟨_, rfl, ?_⟩; have n0_ := Aside0.mk (below_step zb0 hb); clear HB; have HB := n0_; clear n0_; (try clear hb); (try clear hb2); (try clear hk); (try clear hi)))
   go_ret
   exact ⟨zb8, zb0⟩
  ·rw [if_neg c27] at H
   have c27b0 : (t144.toList == ([] : List UInt8)) = false := beq_eq_false_iff_ne.mpr c27
   have c27b1 : (t144.toList != ([] : List UInt8)) = true := bne_iff_ne.mpr c27
   replace H := Option.bind_eq_some_iff.mp H
   obtain ⟨t145, A330, H⟩ := H
   replace H : (if t145.toList = a0.toList then (some t139) else (some 0)) = some r := H
   have A33 := Aside0.mk A330
   clear A330
   by_cases c34 : t145.toList = a0.toList
   ·rw [if_pos c34] at H
    have c34b0 : (t145.toList == a0.toList) = true := beq_iff_eq.mpr c34
    have c34b1 : (t145.toList != a0.toList) = false := bne_eq_false_iff_eq.mpr c34
    clear c34
    obtain rfl := Option.some.inj H
    go_enter Tryd.func19, Tryd.ntmps19
    go_wp2_with (first | ((with_reducible refine gate_callee (f := 30) rfl ?_); refine goesL_ (some 10) rfl rfl Tryd.func30 zb11 rfl #[.string a0, .string (⟨#[72, 84, 84, 80, 47, 49, 46, 49, 32]⟩ : ByteArray)] rfl zb1 ?_; (with_reducible refine (strings_TrimPrefix.calls a0 (⟨#[72, 84, 84, 80, 47, 49, 46, 49, 32]⟩ : ByteArray) t135 _ A2.out).mono ?_); rintro e w35 ⟨rfl, hb⟩; refine ⟨_, rfl, ?_⟩; have n0_ := Aside0.mk (below_step zb0 hb); clear HB; have HB := n0_; clear n0_; (try clear hb); (try clear hb2); (try clear hk); (try clear hi)) | ((with_reducible refine gate_callee (f := 18) rfl ?_); refine goesL_ (some 11) rfl rfl Tryd.func18 zb11 rfl #[.string t135, .string (⟨#[32]⟩ : ByteArray)] rfl zb1 ?_; (with_reducible refine (strings_Cut.calls t135 (⟨#[32]⟩ : ByteArray) t136 t137 t138 _ ?side1 A3.out).mono ?_); (case side1 => exact Glob.below hGA.out zb0); rintro e w36 ⟨rfl, hb⟩; refine ⟨_, rfl, ?_⟩; have n0_ := Aside0.mk (below_step zb0 hb); clear HB; have HB := n0_; clear n0_; (try clear hb); (try clear hb2); (try clear hk); (try clear hi)) | ((with_reducible refine gate_callee (f := 31) rfl ?_); refine goesL_ (some 17) rfl rfl Tryd.func31 zb11 rfl #[.string t136] rfl zb1 ?_; (with_reducible refine (strconv_Atoi.calls t136 t139 (some q141) _ ?side1 A4.out).mono ?_); (case side1 => exact Glob.below hGA.out zb0); rintro e w37 ⟨pv38, hpv38, rfl, hb⟩; refine ⟨_, rfl, ?_⟩; obtain ⟨tpv38, ppv38, rfl⟩ := ErrIs.some_ hpv38; have n0_ := Aside0.mk (below_step zb0 hb); clear HB; have HB := n0_; clear n0_; (try clear hb); (try clear hb2); (try clear hk); (try clear hi); (try simp only [errW_none, errW_some])) | ((with_reducible refine gate_callee (f := 7) rfl ?_); refine goesL_ (some 21) rfl rfl Tryd.func7 zb11 rfl #[.int .i64 t139] rfl zb1 ?_; (with_reducible refine (response_Reason.calls t139 t144 _ A26.out).mono ?_); rintro e w39 ⟨rfl, hb⟩; refine ⟨_, rfl, ?_⟩; have n0_ := Aside0.mk (below_step zb0 hb); clear HB; have HB := n0_; clear n0_; (try clear hb); (try clear hb2); (try clear hk); (try clear hi)) | (go_at_call 17; (with_reducible refine (response_first.calls t139 t145 _ ?side1 A33.out).mono ?_); (case side1 => exact Glob.below hGA.out zb0); rintro e w40 ⟨rfl, hb⟩; have n0_ := Aside0.mk (below_step zb0 hb); clear HB; have HB := n0_; clear n0_; (try clear hb); (try clear hb2); (try clear hk); (try clear hi)))
    go_ret
    exact ⟨zb8, zb0⟩
   ·rw [if_neg c34] at H
    have c34b0 : (t145.toList == a0.toList) = false := beq_eq_false_iff_ne.mpr c34
    have c34b1 : (t145.toList != a0.toList) = true := bne_iff_ne.mpr c34
    obtain rfl := Option.some.inj H
    go_enter Tryd.func19, Tryd.ntmps19
    go_wp2_with (first | ((with_reducible refine gate_callee (f := 30) rfl ?_); refine goesL_ (some 10) rfl rfl Tryd.func30 zb11 rfl #[.string a0, .string (⟨#[72, 84, 84, 80, 47, 49, 46, 49, 32]⟩ : ByteArray)] rfl zb1 ?_; (with_reducible refine (strings_TrimPrefix.calls a0 (⟨#[72, 84, 84, 80, 47, 49, 46, 49, 32]⟩ : ByteArray) t135 _ A2.out).mono ?_); rintro e w41 ⟨rfl, hb⟩; refine ⟨_, rfl, ?_⟩; have n0_ := Aside0.mk (below_step zb0 hb); clear HB; have HB := n0_; clear n0_; (try clear hb); (try clear hb2); (try clear hk); (try clear hi)) | ((with_reducible refine gate_callee (f := 18) rfl ?_); refine goesL_ (some 11) rfl rfl Tryd.func18 zb11 rfl #[.string t135, .string (⟨#[32]⟩ : ByteArray)] rfl zb1 ?_; (with_reducible refine (strings_Cut.calls t135 (⟨#[32]⟩ : ByteArray) t136 t137 t138 _ ?side1 A3.out).mono ?_); (case side1 => exact Glob.below hGA.out zb0); rintro e w42 ⟨rfl, hb⟩; refine ⟨_, rfl, ?_⟩; have n0_ := Aside0.mk (below_step zb0 hb); clear HB; have HB := n0_; clear n0_; (try clear hb); (try clear hb2); (try clear hk); (try clear hi)) | ((with_reducible refine gate_callee (f := 31) rfl ?_); refine goesL_ (some 17) rfl rfl Tryd.func31 zb11 rfl #[.string t136] rfl zb1 ?_; (with_reducible refine (strconv_Atoi.calls t136 t139 (some q141) _ ?side1 A4.out).mono ?_); (case side1 => exact Glob.below hGA.out zb0); rintro e w43 ⟨pv44, hpv44, rfl, hb⟩; refine ⟨_, rfl, ?_⟩; obtain ⟨tpv44, ppv44, rfl⟩ := ErrIs.some_ hpv44; have n0_ := Aside0.mk (below_step zb0 hb); clear HB; have HB := n0_; clear n0_; (try clear hb); (try clear hb2); (try clear hk); (try clear hi); (try simp only [errW_none, errW_some])) | ((with_reducible refine gate_callee (f := 7) rfl ?_); refine goesL_ (some 21) rfl rfl Tryd.func7 zb11 rfl #[.int .i64 t139] rfl zb1 ?_; (with_reducible refine (response_Reason.calls t139 t144 _ A26.out).mono ?_); rintro e w45 ⟨rfl, hb⟩; refine ⟨_, rfl, ?_⟩; have n0_ := Aside0.mk (below_step zb0 hb); clear HB; have HB := n0_; clear n0_; (try clear hb); (try clear hb2); (try clear hk); (try clear hi)) | (go_at_call 17; (with_reducible refine (response_first.calls t139 t145 _ ?side1 A33.out).mono ?_); (case side1 => exact Glob.below hGA.out zb0); rintro e w46 ⟨rfl, hb⟩; have n0_ := Aside0.mk (below_step zb0 hb); clear HB; have HB := n0_; clear n0_; (try clear hb); (try clear hb2); (try clear hk); (try clear hi)))
    go_ret
    exact ⟨zb8, zb0⟩
end Go.Proofs.YtaopopnlnohnpaaDoor.P
/- SpA -/
namespace Go.Proofs.YtaopopnlnohnpaaDoor.Sp
open Go
set_option linter.unusedVariables false
set_option linter.unusedSimpArgs false
abbrev L := List UInt8
def ctl (c : UInt8) : Bool := decide (c.toNat < 32) && !(c == 9) || c == 127
def bl (c : UInt8) : Bool := c == 32 || c == 9
def signs : L := [48, 49, 50, 51, 52, 53, 54, 55, 56, 57, 65, 66, 67, 68, 69, 70, 71, 72, 73, 74, 75, 76, 77, 78, 79, 80, 81, 82, 83, 84, 85, 86, 87, 88, 89, 90, 97, 98, 99, 100, 101, 102, 103, 104, 105, 106, 107, 108, 109, 110, 111, 112, 113, 114, 115, 116, 117, 118, 119, 120, 121, 122, 33, 35, 36, 37, 38, 39, 42, 43, 45, 46, 94, 95, 96, 124, 126]
def tokB (c : UInt8) : Bool := signs.contains c
def lowB (c : UInt8) : UInt8 := if 65 ≤ c.toNat ∧ c.toNat ≤ 90 then UInt8.ofNat (c.toNat + 32) else c
def low (s : L) : L := s.map lowB
def hexV (c : UInt8) : Option Nat := if 48 ≤ c.toNat ∧ c.toNat ≤ 57 then some (c.toNat - 48) else if 65 ≤ c.toNat ∧ c.toNat ≤ 70 then some (c.toNat - 55) else if 97 ≤ c.toNat ∧ c.toNat ≤ 102 then some (c.toNat - 87) else none
def hexB (c : UInt8) : Bool := (hexV c).isSome
def tok (s : L) : L × L := (s.takeWhile tokB, s.dropWhile tokB)
def skip (s : L) : L := s.dropWhile bl
def quoted : L → Option (L × L)
  | [] => none
  | c :: r => if c = 34 then some ([], r) else if c = 92 then (match r with
      | [] => none
      | d :: r' => if ctl d = true then none else (quoted r').map fun p => (d :: p.1, p.2))
    else if ctl c = true then none else (quoted r).map fun p => (c :: p.1, p.2)
def value (s : L) : Option (L × L) := if s.head? = some 34 then quoted s.tail else if (tok s).1 = [] then none else some (tok s)
def params : Nat → L → Option (List (L × L))
  | 0, _ => none
  | f + 1, s => if skip s = [] then some [] else if (skip s).head? ≠ some 59 then none else
      if (tok (skip (skip s).tail)).1 = [] then none else if (tok (skip (skip s).tail)).2.head? ≠ some 61 then none else
      match value (tok (skip (skip s).tail)).2.tail with
      | none => none
      | some (v, rest) => (params f rest).map ((low (tok (skip (skip s).tail)).1, v) :: ·)
def pars (s : L) : Option (List (L × L)) := params (s.length + 1) s
def line : L → Option (L × L)
  | [] => none
  | c :: r => if c = 13 ∧ r.head? = some 10 then some ([], r.tail) else (line r).map fun p => (c :: p.1, p.2)
def trim (s : L) : L := (skip (skip s).reverse).reverse
def fval (s : L) : Bool := s.all (fun c => !ctl c) && decide (trim s = s)
def pairOf (l : L) : Option (L × L) := if (tok l).1 = [] then none else if (tok l).2.head? ≠ some 58 then none else if fval (trim (tok l).2.tail) = true then some (low (tok l).1, trim (tok l).2.tail) else none
/-- The fields, what stands behind them, the error (0: none); N: how long all of it is. -/
def fparse (N : Nat) : Nat → L → List (L × L) → List (L × L) × L × Int
  | 0, _, _ => ([], [], 180)
  | f + 1, s, acc => match line s with
    | none => ([], [], if N > 8000 then 2 else 180)
    | some (l, more) => if N - more.length > 8000 then ([], [], if N > 8000 then 2 else 180) else if l = [] then (acc, more, 0) else match pairOf l with
      | none => ([], [], 180)
      | some p => fparse N f more (acc ++ [p])
def fields (s : L) : List (L × L) × L × Int := fparse s.length (s.length + 1) s []
def hexN (d : L) : Nat := d.foldl (fun n c => n * 16 + (hexV c).getD 0) 0
def csize (l : L) : Option Nat := if l.takeWhile hexB = [] ∨ 8 < (l.takeWhile hexB).length ∨ pars (l.dropWhile hexB) = none then none else some (hexN (l.takeWhile hexB))
/-- The body, what stands behind it, the error. -/
def decode : Nat → L → L → L × L × Int
  | 0, _, _ => ([], [], 190)
  | f + 1, s, acc => match line s with
    | none => ([], [], 190)
    | some (l, more) => match csize l with
      | none => ([], [], 190)
      | some n => if n = 0 then (if (fields more).2.2 = 0 then (acc, (fields more).2.1, 0) else ([], [], 190))
        else if n + acc.length > 100000 then ([], [], 2)
        else if more.length < n then ([], [], 190)
        else if (more.drop n).take 2 ≠ [13, 10] then ([], [], 190)
        else decode f (more.drop (n + 2)) (acc ++ more.take n)
def dec (s : L) : L × L × Int := decode (s.length + 1) s []
def hexC (n : Nat) : UInt8 := if n < 10 then UInt8.ofNat (48 + n) else UInt8.ofNat (87 + n)
def hexD (n : Nat) : L := if h : n < 16 then [hexC n] else hexD (n / 16) ++ [hexC (n % 16)]
termination_by n
decreasing_by omega
def encode : Nat → L → Nat → L
  | 0, _, _ => []
  | f + 1, s, n => if s = [] then [48, 13, 10, 13, 10] else hexD (min n s.length) ++ [13, 10] ++ s.take n ++ [13, 10] ++ encode f (s.drop n) n
def enc (s : L) (n : Nat) : L := encode (s.length + 1) s n
theorem line_len : ∀ (s : L) (p : L × L), line s = some p → s = p.1 ++ 13 :: 10 :: p.2
  | [], _, h => by simp [line] at h
  | c :: r, p, h => by
    unfold line at h
    split at h
    · rename_i hc
      obtain ⟨rfl, h2⟩ := hc
      obtain rfl := Option.some.inj h
      cases r with
      | nil => simp at h2
      | cons d r => simp at h2; subst h2; rfl
    · cases e : line r with
      | none => rw [e] at h; simp at h
      | some q =>
        rw [e] at h
        simp at h
        subst h
        have := line_len r q e
        simp [this]
theorem line_app : ∀ (a b : L), (∀ x y, ¬ (a = x ++ 13 :: 10 :: y)) → (a.getLast? ≠ some 13) → line (a ++ 13 :: 10 :: b) = some (a, b)
  | [], b, _, _ => by simp [line]
  | c :: r, b, h, hl => by
    have hr : ∀ x y, ¬ (r = x ++ 13 :: 10 :: y) := fun x y e => h (c :: x) y (by simp [e])
    rw [List.cons_append, line, if_neg]
    · rw [line_app r b hr (by
        cases r with
        | nil => simp
        | cons d r => rw [List.getLast?_cons_cons] at hl; exact hl)]
      rfl
    · rintro ⟨rfl, h2⟩
      cases r with
      | nil => simp at hl
      | cons d r =>
        simp at h2
        subst h2
        exact h [] r rfl
end Go.Proofs.YtaopopnlnohnpaaDoor.Sp
/- Orng -/
namespace Go.Proofs.YtaopopnlnohnpaaDoor.O
open Go.RowKit Go.Shelf
attribute [local go_sem] Oper.semAt_some
set_option linter.unusedVariables false
set_option linter.unusedSimpArgs false
def lineB (s : ByteArray) : Option (ByteArray × ByteArray) := (Sp.line s.data.toList).map fun p => (⟨p.1.toArray⟩, ⟨p.2.toArray⟩)
theorem index2 (c : UInt8) (r : List UInt8) : Lib.index (c :: r) [13, 10] = if c = 13 ∧ r.head? = some 10 then 0 else if Lib.index r [13, 10] == -1 then -1 else Lib.index r [13, 10] + 1 := by
  cases r with
  | nil => by_cases h : c = 13 <;> simp [Lib.index, List.isPrefixOf, h]
  | cons d r =>
    by_cases h : c = 13 ∧ d = 10
    · obtain ⟨rfl, rfl⟩ := h
      simp [Lib.index, List.isPrefixOf]
    · have h' : ((13 == c) && ((10 == d) && true)) = false := by
        rw [Bool.eq_false_iff]
        intro e
        simp only [Bool.and_eq_true, beq_iff_eq, and_true] at e
        exact h ⟨e.1.symm, e.2.symm⟩
      have h2 : ¬ (c = 13 ∧ (d :: r).head? = some 10) := by simpa using fun e1 e2 => h ⟨e1, e2⟩
      rw [if_neg h2, Lib.index]
      have h3 : ([13, 10] : List UInt8).isPrefixOf (c :: d :: r) = false := by
        simp only [List.isPrefixOf]
        exact h'
      rw [h3, if_neg zb32]
theorem index_line : ∀ s : List UInt8, (Sp.line s = none ∧ Lib.index s [13, 10] = -1) ∨ (∃ p : List UInt8 × List UInt8, Sp.line s = some p ∧ Lib.index s [13, 10] = p.1.length)
  | [] => .inl ⟨rfl, by simp [Lib.index]⟩
  | c :: r => by
    rw [index2, Sp.line]
    by_cases h : c = 13 ∧ r.head? = some 10
    · rw [if_pos h, if_pos h]
      exact .inr ⟨_, rfl, rfl⟩
    · rw [if_neg h, if_neg h]
      rcases index_line r with ⟨e1, e2⟩ | ⟨p, e1, e2⟩
      · rw [e1, e2]
        exact .inl ⟨rfl, rfl⟩
      · rw [e1, e2]
        have hb : ((p.1.length : Int) == -1) = false := by simp
        rw [hb, if_neg zb32]
        exact .inr ⟨_, rfl, by simp⟩
theorem cut_none (s : ByteArray) (h : lineB s = none) : Lib.cut s.data.toList [13, 10] = (s.data.toList, [], false) := by
  rcases index_line s.data.toList with ⟨e1, e2⟩ | ⟨p, e1, e2⟩
  · unfold Lib.cut
    rw [e2, if_neg zb26]
  · unfold lineB at h
    rw [e1] at h
    simp at h
theorem cut_some (s x y : ByteArray) (h : lineB s = some (x, y)) : Lib.cut s.data.toList [13, 10] = (x.data.toList, y.data.toList, true) := by
  rcases index_line s.data.toList with ⟨e1, e2⟩ | ⟨p, e1, e2⟩
  · unfold lineB at h
    rw [e1] at h
    simp at h
  · unfold lineB at h
    rw [e1] at h
    simp only [Option.map_some, Option.some.injEq, Prod.mk.injEq] at h
    obtain ⟨rfl, rfl⟩ := h
    have hs := Sp.line_len _ _ e1
    unfold Lib.cut
    rw [e2, if_pos zb26]
    have e3 : (p.1 ++ 13 :: 10 :: p.2).drop (p.1.length + 2) = p.2 := by
      rw [← List.drop_drop, List.drop_left' rfl]
      rfl
    have e4 : (p.1 ++ 13 :: 10 :: p.2).take p.1.length = p.1 := List.take_left' rfl
    rw [hs]
    simp only [Int.toNat_natCast, List.length_cons, List.length_nil, e4]
    rw [show p.1.length + (0 + 1 + 1) = p.1.length + 2 by omega, e3]
theorem lineB_size (s x y : ByteArray) (h : lineB s = some (x, y)) : s.size = x.size + y.size + 2 := by
  unfold lineB at h
  cases e : Sp.line s.data.toList with
  | none => rw [e] at h; simp at h
  | some p =>
    rw [e] at h
    simp only [Option.map_some, Option.some.injEq, Prod.mk.injEq] at h
    obtain ⟨rfl, rfl⟩ := h
    have hs := congrArg List.length (Sp.line_len _ _ e)
    simp only [List.length_append, List.length_cons] at hs
    rw [Lib.size_eq, Lib.size_eq, Lib.size_eq]
    show s.data.toList.length = p.1.length + p.2.length + 2
    omega
/-- What abides a store into block B, and an answer of the tape. -/
structure Stays (B : Nat) (J : World → Prop) : Prop where
  set : ∀ W v, J W → J (W.setCell ⟨B, 0, none⟩ v)
  drew : ∀ W k, J W → J (W.drewN k)
/-- A function value that hands its caller's rounds the lines of s0, one by one; B: its box. -/
def LinesOf (F : Fence) (n : Nat) (gf : Nat) (lb : Array Value) (B : Nat) (s0 : ByteArray) (w : World) : Prop :=
  ∀ (l : Nat) (J : ByteArray → World → Prop) (Jx : World → Prop) (W : World), Below w.heap.size w W → (∀ c, Stays B (J c)) → (∀ c W, J c W → Glob W) →
    (∀ cur x y W1, J cur W1 → lineB cur = some (x, y) → YieldAt F (n - 1) Tryd.prog l #[.string x, .string y] W1 fun e W' =>
      (e = .returned (.bool true) ∧ J y W' ∧ W'.heap[B]? = W1.heap[B]?) ∨ (e = .returned (.bool false) ∧ Jx W')) →
    J s0 W →
    CallsIn F n Tryd.prog gf (#[.func (.yield l) #[] #[]] ++ lb) W fun e W' => (∃ v, e = .returned v) ∧ ((∃ cur, lineB cur = none ∧ J cur W') ∨ Jx W')
/-- How a round's body may be left. -/
def roundEnd (N B : Nat) (I : ByteArray → World → Prop) (Ix : Code → World → Prop) (y : ByteArray) (W : World) : Exit → Act → World → Prop
  | .normal, _, W' => KeepsFrom N W W' ∧ W'.heap[B]? = W.heap[B]? ∧ I y W'
  | .ret, _, W' => KeepsFrom N W W' ∧ Ix .ret W'
  | .exit id, _, W' => KeepsFrom N W W' ∧ Ix (.exit id) W'
  | .goto t, _, W' => KeepsFrom N W W' ∧ Ix (.goto t) W'
  | .panic _, _, _ => False
  | .outgrown, _, _ => False
variable {F : Fence} {n : Nat}
theorem range_lines {g : Operand} {ps : Array Tmp} {assign body : Code} {Q : Exit → Act → World → Prop} {a : Act} {w : World}
    (hro : F.round = none) (h1 : 1 ≤ n) {gf : Nat} {lb : Array Value} (hg : a.eval g = .func (.func gf) #[] lb) (hFg : F.fn gf) (eg : ∀ args w, (callFunc gf args).run Tryd.prog w = .ok (.enter gf args) w)
    {B : Nat} {s0 : ByteArray} (hit : LinesOf F (n - 1) gf lb B s0 w) (hB : B < w.heap.size) (hps : ps.size = 2)
    (I : ByteArray → World → Prop) (Ix : Code → World → Prop) (hI : OwnFrom w.heap.size I) (hIx : OwnFrom w.heap.size Ix) (hIs : ∀ c, Stays B (I c)) (hIG : ∀ c W, I c W → Glob W) (h0 : I s0 w) (a₁ : ByteArray → ByteArray → Act)
    (hassign : ∀ (l : Nat) (x y : ByteArray) (W : World) (K : Act → World → Prop), K (a₁ x y) W →
      assign.wpIn (F.inRound l) (n - 1 - 1) Tryd.prog (Exit.then K (fun _ _ _ => False)) { tmps := (ps.zip #[Value.string x, Value.string y]).foldl (fun t (p, v) => t.setIfInBounds p v) a.tmps, defers := [] } W)
    (hbody : ∀ (l : Nat) (cur x y : ByteArray) (W : World), I cur W → lineB cur = some (x, y) → body.wpIn (F.inRound l) (n - 1 - 1) Tryd.prog (roundEnd w.heap.size B I Ix y W) (a₁ x y) W)
    (hdone : ∀ (D : Nat) (cur : ByteArray) (W : World), w.heap.size ≤ D → lineB cur = none → I cur W → W.heap[D]? = some (.deferred (some [])) → Q .normal { a with defers := { target := .collected D, args := #[] } :: a.defers } W)
    (hstop : ∀ (D : Nat) (c : Code) (W : World), w.heap.size ≤ D → Ix c W → W.heap[D]? = some (.deferred (some [])) → c.wpIn F n Tryd.prog Q { a with defers := { target := .collected D, args := #[] } :: a.defers } W) :
    (Code.rangeFunc g ps assign body).wpIn F n Tryd.prog Q a w := by
  refine wpIn_rangeFunc (fun fn hfn => ?_)
  rw [hro]
  obtain ⟨R, hR⟩ : ∃ R : LoopState → Option Code → Loop, R = fun st pe => { state := st, pending := pe, fn, tmps := a.tmps, params := ps, assign, body, defers := w.heap.size } := ⟨_, rfl⟩
  obtain ⟨V, hV⟩ : ∃ V, V = (w.alloc (.deferred (some []))).alloc (.loop (R .ready none)) := ⟨_, rfl⟩
  have hN : w.heap.size + 1 = (w.alloc (.deferred (some []))).heap.size := (World.size_alloc _ _).symm
  have hL : V.heap[w.heap.size + 1]? = some (.loop (R .ready none)) := by rw [hV, hN]; exact World.alloc_heap_new _ _
  have hD : V.heap[w.heap.size]? = some (.deferred (some [])) := by rw [hV]; exact (Below.heap_alloc _ _ _ (by simp)).trans (World.alloc_heap_new w _)
  have hbel : Below w.heap.size w V := by rw [hV]; exact ((Below.refl _ w).alloc (Nat.le_refl _) _).alloc (by simp) _
  have hI0 : I s0 V := by rw [hV]; exact hI.alloc _ (hI.alloc _ h0)
  refine ⟨w.heap.size + 1, [{ target := .collected w.heap.size, args := #[] }], V, { target := .fn (.func gf) lb, args := #[.func (.yield (w.heap.size + 1)) #[] #[]] }, V, gf, #[.func (.yield (w.heap.size + 1)) #[] #[]] ++ lb, V, ?_, ?_, ?_, ?_, fun _ => h1, ?_⟩
  · rw [hV, hR]; exact run_enterLoop_outer _ _ _ _ _
  · simp only [resolve, hg]
    simp [go_sem]
  · intro f' hf'
    simp [Target.leads] at hf'
    subst hf'
    exact hFg
  · simp [invoke, go_sem, eg]
  refine (hit (w.heap.size + 1) (fun c W => I c W ∧ W.heap[w.heap.size + 1]? = some (.loop (R .ready none)) ∧ W.heap[w.heap.size]? = some (.deferred (some [])))
    (fun W => ∃ c, Ix c W ∧ W.heap[w.heap.size + 1]? = some (.loop (R .done (some c))) ∧ W.heap[w.heap.size]? = some (.deferred (some []))) V hbel
    (fun c => ⟨fun W v h => ⟨(hIs c).set W v h.1, (KeepsOthers.setCell W _ v).same _ _ h.2.1 rfl, (KeepsOthers.setCell W _ v).same _ _ h.2.2 rfl⟩, fun W k h => ⟨(hIs c).drew W k h.1, h.2⟩⟩)
    (fun c W h => hIG c W h.1) ?_ ⟨hI0, hL, hD⟩).mono ?_
  · rintro cur x y W ⟨hi, hl, hk⟩ hline
    have hlt : w.heap.size + 1 < W.heap.size := (Array.getElem?_eq_some_iff.1 hl).1
    have hy := run_yield (P := Tryd.prog) (args := #[.string x, .string y]) hl (by rw [hR]; exact hps.symm)
    rw [hR] at hy
    refine ⟨fn, _, assign, body, hy, roundIn_of_wpIn hfn (hassign _ x y W _ ⟨_, run_beginRound hl (by rw [hR]), ?_⟩)⟩
    have hl2 : (W.putObj (w.heap.size + 1) (.loop { R .ready none with state := .busy })).heap[w.heap.size + 1]? = some (.loop { R .ready none with state := .busy }) := World.putObj_heap_same hlt
    have hk2 : (W.putObj (w.heap.size + 1) (.loop { R .ready none with state := .busy })).heap[w.heap.size]? = some (.deferred (some [])) := (World.putObj_heap_other zb26).trans hk
    have hB2 : (W.putObj (w.heap.size + 1) (.loop { R .ready none with state := .busy })).heap[B]? = W.heap[B]? := World.putObj_heap_other zb26
    refine wpIn_mono (hbody _ cur x y _ (hI.putObj _ hi zb26 hl rfl) hline) ?_
    generalize W.putObj (w.heap.size + 1) (.loop { R .ready none with state := .busy }) = W2 at *
    have fin : ∀ (jump : Option Code) (W3 : World), KeepsFrom w.heap.size W2 W3 →
        (Instr.endRound (w.heap.size + 1) jump).run Tryd.prog W3 = .ok (.bool jump.isNone) (W3.putObj (w.heap.size + 1) (.loop (R (if jump.isNone then .ready else .done) jump))) ∧
        W3.heap[w.heap.size + 1]? = some (.loop { R .ready none with state := .busy }) ∧
        (W3.putObj (w.heap.size + 1) (.loop (R (if jump.isNone then .ready else .done) jump))).heap[w.heap.size + 1]? = some (.loop (R (if jump.isNone then .ready else .done) jump)) ∧
        (W3.putObj (w.heap.size + 1) (.loop (R (if jump.isNone then .ready else .done) jump))).heap[w.heap.size]? = some (.deferred (some [])) := fun jump W3 hk3 => by
      have hl3 := hk3.same _ _ zb26 hl2 rfl
      have he := run_endRound (P := Tryd.prog) jump hl3
      refine ⟨?_, hl3, World.putObj_heap_same (Array.getElem?_eq_some_iff.1 hl3).1, (World.putObj_heap_other zb26).trans (hk3.same _ _ (Nat.le_refl _) hk2 rfl)⟩
      rw [he, hR]
    intro e a3 W3 hp
    cases e with
    | normal =>
      obtain ⟨hk3, hb3, hi3⟩ := hp
      obtain ⟨hr, hl3, hl4, hk4⟩ := fin none W3 hk3
      exact ⟨_, _, hr, .inl ⟨rfl, ⟨hI.putObj _ hi3 zb26 hl3 rfl, hl4, hk4⟩, (World.putObj_heap_other zb26).trans (hb3.trans hB2)⟩⟩
    | ret =>
      obtain ⟨hk3, hi3⟩ := hp
      obtain ⟨hr, hl3, hl4, hk4⟩ := fin (some .ret) W3 hk3
      exact ⟨_, _, hr, .inr ⟨rfl, .ret, hIx.putObj _ hi3 zb26 hl3 rfl, hl4, hk4⟩⟩
    | exit id =>
      obtain ⟨hk3, hi3⟩ := hp
      obtain ⟨hr, hl3, hl4, hk4⟩ := fin (some (.exit id)) W3 hk3
      exact ⟨_, _, hr, .inr ⟨rfl, .exit id, hIx.putObj _ hi3 zb26 hl3 rfl, hl4, hk4⟩⟩
    | goto t =>
      obtain ⟨hk3, hi3⟩ := hp
      obtain ⟨hr, hl3, hl4, hk4⟩ := fin (some (.goto t)) W3 hk3
      exact ⟨_, _, hr, .inr ⟨rfl, .goto t, hIx.putObj _ hi3 zb26 hl3 rfl, hl4, hk4⟩⟩
    | panic ch => exact hp.elim
    | outgrown => exact hp.elim
  · rintro e W2 ⟨⟨v, rfl⟩, (⟨cur, hcur, hi, hl, hk⟩ | ⟨c, hi, hl, hk⟩)⟩
    · refine ⟨none, _, ?_, hdone _ cur _ (Nat.le_refl _) hcur (hI.putObj (.loop { R .ready none with state := .exhausted }) hi zb26 hl rfl) ((World.putObj_heap_other zb26).trans hk)⟩
      have := run_endLoop (P := Tryd.prog) hl (by rw [hR]; simp)
      rw [hR] at this ⊢
      exact this
    · refine ⟨some c, _, ?_, hstop _ c _ (Nat.le_refl _) (hIx.putObj (.loop { R .done (some c) with state := .exhausted }) hi zb26 hl rfl) ((World.putObj_heap_other zb26).trans hk)⟩
      have := run_endLoop (P := Tryd.prog) hl (by rw [hR]; simp)
      rw [hR] at this ⊢
      exact this
/-- How many bytes are left: what a box holds. -/
def leftIn (B : Nat) (W : World) : Nat := match W.cell? ⟨B, 0, none⟩ with
  | some (.string s) => s.size
  | _ => 0
theorem leftIn_of {B : Nat} {W : World} {s : ByteArray} (h : W.cell? ⟨B, 0, none⟩ = some (.string s)) : leftIn B W = s.size := by unfold leftIn; rw [h]
theorem boxed_of {B : Nat} {W W' : World} (h : W'.heap[B]? = W.heap[B]?) : W'.cell? ⟨B, 0, none⟩ = W.cell? ⟨B, 0, none⟩ := by
  unfold World.cell?
  rw [h]
theorem frozen_of {B : Nat} {W W' : World} (h : W'.heap[B]? = W.heap[B]?) : W'.frozen? ⟨B, 0, none⟩ = W.frozen? ⟨B, 0, none⟩ := by
  unfold World.frozen?
  rw [h]
theorem cut_no (cur : ByteArray) (m : Int) (w : World) (hs : cur.size < 4294967281) (hm : w.cell? ⟨0, 0, none⟩ = some (.int .i64 m)) (h : lineB cur = none) :
    CallsIn Fence.wide n Tryd.prog 18 #[.string cur, .string (⟨#[13, 10]⟩ : ByteArray)] w fun e w' => e = .returned (.tuple #[.string cur, .string ⟨#[]⟩, .bool false]) ∧ ∃ k, w' = w.drewN k := by
  refine callsIn_wide.2 ((Tryd.strings_Cut cur (⟨#[13, 10]⟩ : ByteArray) m w hs hm).mono ?_)
  have e : ((⟨#[13, 10]⟩ : ByteArray).data.toList) = [13, 10] := rfl
  rw [e, cut_none cur h]
  rintro e w' ⟨rfl, k, rfl⟩
  exact ⟨by simp, k, rfl⟩
theorem cut_yes (cur x y : ByteArray) (m : Int) (w : World) (hs : cur.size < 4294967281) (hm : w.cell? ⟨0, 0, none⟩ = some (.int .i64 m)) (h : lineB cur = some (x, y)) :
    CallsIn Fence.wide n Tryd.prog 18 #[.string cur, .string (⟨#[13, 10]⟩ : ByteArray)] w fun e w' => e = .returned (.tuple #[.string x, .string y, .bool true]) ∧ ∃ k, w' = w.drewN k := by
  refine callsIn_wide.2 ((Tryd.strings_Cut cur (⟨#[13, 10]⟩ : ByteArray) m w hs hm).mono ?_)
  have e : ((⟨#[13, 10]⟩ : ByteArray).data.toList) = [13, 10] := rfl
  rw [e, cut_some cur x y h]
  rintro e w' ⟨rfl, k, rfl⟩
  exact ⟨by simp, k, rfl⟩
set_option maxRecDepth 100000 in
set_option maxHeartbeats 4000000 in
theorem lines_stops (n : Nat) (hn : 1 ≤ n) (B : Nat) (s0 : ByteArray) (w : World) (hs : s0.size < 4294967281) (hB : B < w.heap.size) (hbox : Boxed w B 9 (.string s0)) :
    LinesOf Fence.wide n 44 #[.pointer (some ⟨B, 0, none⟩)] B s0 w := by
  intro l J Jx W hW hJ hJG hY h0
  have hfc : Fence.wide.fn 18 := trivial
  have hboxW : Hid (W.cell? ⟨B, 0, none⟩ = some (.string s0) ∧ W.frozen? ⟨B, 0, none⟩ = false) := Lib.hid ⟨(hW.cell (p := ⟨B, 0, none⟩) hB).trans hbox.cell, (hW.frozen (p := ⟨B, 0, none⟩) hB).trans hbox.frozen⟩
  clear hbox hW
  have h0' := Lib.hid h0
  clear h0
  have hJ' := Lib.hid hJ
  have hJG' := Lib.hid hJG
  have hY' := Lib.hid hY
  clear hJ hJG hY
  refine callsIn_of_wp Tryd.func44 rfl trivial ?_ rfl
  simp only [Tryd.ntmps44, List.size_toArray, List.length_cons, List.length_nil, Nat.reduceAdd, Nat.reduceSub, Array.replicate_succ, Array.replicate_zero, List.push_toArray, List.append_toArray, List.nil_append, List.cons_append]
  gi_wp2
  gi_loopw [3] (fun t wr => ∃ cur : ByteArray, cur.size < 4294967281 ∧ Hid (wr.cell? ⟨B, 0, none⟩ = some (.string cur) ∧ wr.frozen? ⟨B, 0, none⟩ = false) ∧ Hid (J cur wr)) (fun _ wr => leftIn B wr)
  case atStart => exact ⟨s0, hs, hboxW, h0'⟩
  case round =>
    obtain ⟨cur, hsz, hbx, hJc⟩ := hrel
    obtain ⟨hc0, hf0⟩ := hbx.out
    obtain ⟨m, hm⟩ := (hJG'.out cur wr hJc.out).cell
    have hleft := Lib.hid (leftIn_of hc0)
    rcases hline : lineB cur with _ | ⟨x, y⟩
    · have HC := Lib.hid (cut_no (n := n - 1) cur m wr hsz hm hline)
      have hline' := Lib.hid hline
      clear hm hline
      gi_wp2_with (gi_at_call 18; refine HC.out.mono ?_; rintro e w' ⟨rfl, k, rfl⟩)
      refine ⟨fun _ h => (by cases h), ?_⟩
      gi_wp2
      refine bodyPost_ret (results_none rfl _ _ _) rfl ?_
      exact ⟨⟨_, rfl⟩, .inl ⟨cur, hline'.out, (hJ'.out cur).drew _ k hJc.out⟩⟩
    · have HC := Lib.hid (cut_yes (n := n - 1) cur x y m wr hsz hm hline)
      have hR0 := Lib.hid (fun k => hY'.out cur x y (wr.drewN k) ((hJ'.out cur).drew _ k hJc.out) hline)
      have hsy := Lib.hid (lineB_size cur x y hline)
      clear hm hline
      gi_wp2_with (gi_at_call 18; refine HC.out.mono ?_; rintro e w' ⟨rfl, k, rfl⟩; obtain ⟨fn, tmps, assign, body, hy, hR⟩ := hR0.out k; have hR := Lib.hid hR)
      refine hR.out.mono ?_
      rintro e W3 (⟨rfl, hJ3, hb3⟩ | ⟨rfl, hx3⟩)
      · have hc3 : W3.cell? ⟨B, 0, none⟩ = some (.string cur) := (boxed_of hb3).trans hc0
        have hf3 : W3.frozen? ⟨B, 0, none⟩ = false := (frozen_of hb3).trans hf0
        have hset := Lib.hid (World.cell?_setCell_same W3 ⟨B, 0, none⟩ (.string y) hc3)
        have hJ4 := Lib.hid ((hJ'.out y).set W3 (.string y) hJ3)
        clear hJ3 hb3
        gi_wp2
        go_roundw
        case rel => exact ⟨y, by have := hsy.out; omega, Lib.hid ⟨hset.out, by rw [World.frozen?_setCell]; exact hf3⟩, hJ4⟩
        case measure =>
          rw [leftIn_of hset.out, hleft.out]
          have := hsy.out
          omega
      · have hx3 := Lib.hid hx3
        gi_wp2
        refine bodyPost_ret (results_none rfl _ _ _) rfl ?_
        exact ⟨⟨_, rfl⟩, .inr hx3.out⟩
end Go.Proofs.YtaopopnlnohnpaaDoor.O
/- Px5 -/
namespace Go.Proofs.YtaopopnlnohnpaaDoor.P
open Go.Proofs.YtaopopnlnohnpaaDoor.B
open Go.RowKit Go.Proofs.YtaopopnlnohnpaaDoorW.PrintWords Go.Proofs.YtaopopnlnohnpaaDoorW.PrintLast Go.Proofs.YtaopopnlnohnpaaDoorW.PrintMore
attribute [local go_sem] str_leq str_gtr str_geq max2_int min2_int max_two min_two max_three min_three max_four min_four
set_option linter.unusedVariables false
set_option linter.unusedSimpArgs false
open Go.Proofs.YtaopopnlnohnpaaDoor.O
def media_Text_Token.l0 : Nat → Int → ByteArray → Option (ByteArray × ByteArray)
  | 0, _, _ => none
  | k + 1, x3, x1000 => if x3 < (x1000.size : Int) then (if 0 ≤ x3 then ((strings_IndexByte.f (⟨#[48, 49, 50, 51, 52, 53, 54, 55, 56, 57, 65, 66, 67, 68, 69, 70, 71, 72, 73, 74, 75, 76, 77, 78, 79, 80, 81, 82, 83, 84, 85, 86, 87, 88, 89, 90, 97, 98, 99, 100, 101, 102, 103, 104, 105, 106, 107, 108, 109, 110, 111, 112, 113, 114, 115, 116, 117, 118, 119, 120, 121, 122, 33, 35, 36, 37, 38, 39, 42, 43, 45, 46, 94, 95, 96, 124, 126]⟩ : ByteArray) (bt x1000 x3)).bind fun t114 => (if t114 ≥ 0 then (media_Text_Token.l0 k (wrap64 (x3 + 1)) x1000) else (if x3 ≤ (x1000.size : Int) then (some (x1000.extract 0 (x3 : Int).toNat, x1000.extract (x3 : Int).toNat x1000.size)) else (none)))) else (none)) else (if 0 ≤ x3 then (if x3 ≤ (x1000.size : Int) then (some (x1000.extract 0 (x3 : Int).toNat, x1000.extract (x3 : Int).toNat x1000.size)) else (none)) else (none))
def media_Text_Token.f (k : Nat) (s0_0 : ByteArray) : Option (ByteArray × ByteArray) := media_Text_Token.l0 k 0 s0_0
set_option maxHeartbeats 8000000 in
set_option maxRecDepth 100000 in
theorem media_Text_Token.calls (k : Nat) (g : Nat) (s0_0 : ByteArray) (r1 : ByteArray) (r2 : ByteArray) (w0 w : World) (hI : IsS72 w0 w g s0_0) (hB : Below w0.heap.size w0 w) (h : media_Text_Token.f k s0_0 = some (r1, r2)) :
  Calls Tryd.prog 37 #[.pointer (some ⟨g, 0, none⟩)] w fun e w' => e = .returned (.string r1) ∧ IsS72 w0 w' g r2 ∧ Below w0.heap.size w0 w' ∧ KeepBut w w' g none := by
 have HI0 := Aside0.mk hI
 have HK := Aside0.mk (KeepBut.refl w g none)
 have HL := Aside0.mk hB.size
 clear hI
 have HW0 := Aside0.mk hB.size
 have HB := Aside0.mk hB
 clear hB
 have H : (media_Text_Token.l0 k 0 s0_0) = some (r1, r2) := h
 clear h
 have H' := Aside0.mk H
 clear H
 go_enter Tryd.func37, Tryd.ntmps37
 go_wp2
 first | go_loopg [3] k (fun kq v3 w' => ∃ (x3_1 : Int), v3 = .int .i64 x3_1 ∧ Aside0 (media_Text_Token.l0 kq x3_1 s0_0 = some (r1, r2)) ∧ Aside0 (kq ≤ k) ∧ Aside0 (IsS72 w0 w' g s0_0) ∧ Aside0 (KeepBut w w' g none) ∧ Aside0 (Below w0.heap.size w0 w')) | (go_simp; go_loopg [3] k (fun kq v3 w' => ∃ (x3_1 : Int), v3 = .int .i64 x3_1 ∧ Aside0 (media_Text_Token.l0 kq x3_1 s0_0 = some (r1, r2)) ∧ Aside0 (kq ≤ k) ∧ Aside0 (IsS72 w0 w' g s0_0) ∧ Aside0 (KeepBut w w' g none) ∧ Aside0 (Below w0.heap.size w0 w')))
 case atStart => exact ⟨(0), zb19, H', ⟨Nat.le_refl _⟩, ⟨by repeat (first | (with_reducible first | exact HI0.out | apply IsS72.alloc | apply IsS72.drewN | apply IsS72.drew | apply IsS72.set_0) | exact HI0.out)⟩, ⟨by repeat (first | (with_reducible first | exact HK.out | apply KeepBut.set_ | apply keep_drewN | apply keep_drew | apply keep_alloc) | exact HK.out)⟩, ⟨by repeat (first | (with_reducible first | exact HB.out | apply below_alloc | apply pw_below_drewN | apply below_drew1 | refine below_set ?_ (IsS72.ge HI0.out)) | exact HB.out)⟩⟩
 case round =>
  clear H'
  obtain ⟨x3_1, rfl, HA, HK1, HI0, HK, HB⟩ := hrel
  cases gk with
  | zero => exact absurd HA.out (by simp [media_Text_Token.l0])
  | succ k1 =>
   have H := HA.out
   clear HA
   simp only [media_Text_Token.l0] at H
   by_cases c2 : x3_1 < (s0_0.size : Int)
   ·rw [if_pos c2] at H
    have c2b0 : decide (x3_1 < (s0_0.size : Int)) = true := decide_eq_true c2
    clear c2
    by_cases c3 : 0 ≤ x3_1
    ·rw [if_pos c3] at H
     have c3b0 : decide (0 ≤ x3_1) = true := decide_eq_true c3
     clear c3
     replace H := Option.bind_eq_some_iff.mp H
     obtain ⟨t114, A50, H⟩ := H
     replace H : (if t114 ≥ 0 then (media_Text_Token.l0 k1 (wrap64 (x3_1 + 1)) s0_0) else (if x3_1 ≤ (s0_0.size : Int) then (some (s0_0.extract 0 (x3_1 : Int).toNat, s0_0.extract (x3_1 : Int).toNat s0_0.size)) else (none))) = some (r1, r2) := H
     have A5 := Aside0.mk A50
     clear A50
     by_cases c6 : t114 ≥ 0
     ·rw [if_pos c6] at H
      have c6b0 : decide (0 ≤ t114) = true := decide_eq_true c6
      clear c6
      have H' := Aside0.mk H
      clear H
      obtain ⟨HGz7, hgz7⟩ := HI0.out
      have hcz7_0 := cellS72_0 HGz7
      have hfz7_0 := blk_frozen HGz7 0
      clear HGz7 hgz7
      have p4 : 0 ≤ (x3_1 : Int) := of_decide_eq_true zb12
      have q4 : x3_1 < (s0_0.size : Int) := of_decide_eq_true zb12
      have hx4 := bt_at s0_0 x3_1
      replace p4 := eq_true p4
      replace q4 := eq_true q4
      go_wp2_with (first | (go_at_call 50; (with_reducible refine (strings_IndexByte.calls (⟨#[48, 49, 50, 51, 52, 53, 54, 55, 56, 57, 65, 66, 67, 68, 69, 70, 71, 72, 73, 74, 75, 76, 77, 78, 79, 80, 81, 82, 83, 84, 85, 86, 87, 88, 89, 90, 97, 98, 99, 100, 101, 102, 103, 104, 105, 106, 107, 108, 109, 110, 111, 112, 113, 114, 115, 116, 117, 118, 119, 120, 121, 122, 33, 35, 36, 37, 38, 39, 42, 43, 45, 46, 94, 95, 96, 124, 126]⟩ : ByteArray) (bt s0_0 x3_1) t114 _ A5.out).mono ?_); rintro e w' ⟨rfl, ⟨nd, rfl⟩⟩))
      go_roundg k1
      case measure => have := HK1.out; omega
      case rel => exact ⟨(wrap64 (x3_1 + 1)), zb19, H', ⟨by have := HK1.out; omega⟩, ⟨by repeat (first | (with_reducible first | exact HI0.out | apply IsS72.alloc | apply IsS72.drewN | apply IsS72.drew | apply IsS72.set_0) | exact HI0.out)⟩, ⟨by repeat (first | (with_reducible first | exact HK.out | apply KeepBut.set_ | apply keep_drewN | apply keep_drew | apply keep_alloc) | exact HK.out)⟩, ⟨by repeat (first | (with_reducible first | exact HB.out | apply below_alloc | apply pw_below_drewN | apply below_drew1 | refine below_set ?_ (IsS72.ge HI0.out)) | exact HB.out)⟩⟩
     ·rw [if_neg c6] at H
      have c6b0 : decide (0 ≤ t114) = false := decide_eq_false c6
      clear c6
      have c8b0 := eq_true (of_decide_eq_true zb12 : 0 ≤ x3_1)
      by_cases c9 : x3_1 ≤ (s0_0.size : Int)
      ·rw [if_pos c9] at H
       have c9b0 := eq_true c9
       have c9b1 : decide (x3_1 ≤ (s0_0.size : Int)) = true := decide_eq_true c9
       clear c9
       have c10b0 := eq_true (of_decide_eq_true zb12 : 0 ≤ x3_1)
       have c11b0 := eq_true (of_decide_eq_true zb12 : x3_1 ≤ (s0_0.size : Int))
       simp only [Option.some.injEq, Prod.mk.injEq] at H
       obtain ⟨rfl, rfl⟩ := H
       obtain ⟨HGz12, hgz12⟩ := HI0.out
       have hcz12_0 := cellS72_0 HGz12
       have hfz12_0 := blk_frozen HGz12 0
       clear HGz12 hgz12
       have p4 : 0 ≤ (x3_1 : Int) := of_decide_eq_true zb12
       have q4 : x3_1 < (s0_0.size : Int) := of_decide_eq_true zb12
       have hx4 := bt_at s0_0 x3_1
       replace p4 := eq_true p4
       replace q4 := eq_true q4
       go_wp2_with (first | (go_at_call 50; (with_reducible refine (strings_IndexByte.calls (⟨#[48, 49, 50, 51, 52, 53, 54, 55, 56, 57, 65, 66, 67, 68, 69, 70, 71, 72, 73, 74, 75, 76, 77, 78, 79, 80, 81, 82, 83, 84, 85, 86, 87, 88, 89, 90, 97, 98, 99, 100, 101, 102, 103, 104, 105, 106, 107, 108, 109, 110, 111, 112, 113, 114, 115, 116, 117, 118, 119, 120, 121, 122, 33, 35, 36, 37, 38, 39, 42, 43, 45, 46, 94, 95, 96, 124, 126]⟩ : ByteArray) (bt s0_0 x3_1) t114 _ A5.out).mono ?_); rintro e w' ⟨rfl, ⟨nd, rfl⟩⟩; (try (rw [drewN_self wr]; generalize hq_ : World.drewN wr _ = wr; have n0_ : Aside0 (IsS72 w0 wr g s0_0) := ⟨by rw [← hq_]; exact (by repeat (first | (with_reducible first | exact HI0.out | apply IsS72.alloc | apply IsS72.drewN | apply IsS72.drew | apply IsS72.set_0) | exact HI0.out))⟩; have n1_ : Aside0 (KeepBut w wr g none) := ⟨by rw [← hq_]; exact (by repeat (first | (with_reducible first | exact HK.out | apply KeepBut.set_ | apply keep_drewN | apply keep_drew | apply keep_alloc) | exact HK.out))⟩; have n2_ : Aside0 (Below w0.heap.size w0 wr) := ⟨by rw [← hq_]; exact (by repeat (first | (with_reducible first | exact HB.out | apply below_alloc | apply pw_below_drewN | apply below_drew1 | refine below_set ?_ (IsS72.ge HI0.out)) | exact HB.out))⟩; (try replace hcz12_0 := cell_undrew hq_ hcz12_0); (try replace hfz12_0 := froz_undrew hq_ hfz12_0); (try replace hcz12_1 := cell_undrew hq_ hcz12_1); (try replace hfz12_1 := froz_undrew hq_ hfz12_1); (try replace hcz12_2 := cell_undrew hq_ hcz12_2); (try replace hfz12_2 := froz_undrew hq_ hfz12_2); (try replace hcz12_3 := cell_undrew hq_ hcz12_3); (try replace hfz12_3 := froz_undrew hq_ hfz12_3); clear HI0 HK HB hq_; have HI0 := n0_; have HK := n1_; have HB := n2_; clear n0_ n1_ n2_))))
       go_ret
       exact ⟨zb8, by repeat (first | (with_reducible first | exact HI0.out | apply IsS72.alloc | apply IsS72.drewN | apply IsS72.drew | apply IsS72.set_0) | exact HI0.out), by repeat (first | (with_reducible first | exact HB.out | apply below_alloc | apply pw_below_drewN | apply below_drew1 | refine below_set ?_ (IsS72.ge HI0.out)) | exact HB.out), by repeat (first | (with_reducible first | exact HK.out | apply KeepBut.set_ | apply keep_drewN | apply keep_drew | apply keep_alloc) | exact HK.out)⟩
      ·rw [if_neg c9] at H
       exact absurd H (by simp)
    ·rw [if_neg c3] at H
     exact absurd H (by simp)
   ·rw [if_neg c2] at H
    have c2b0 : decide (x3_1 < (s0_0.size : Int)) = false := decide_eq_false c2
    clear c2
    by_cases c13 : 0 ≤ x3_1
    ·rw [if_pos c13] at H
     have c13b0 := eq_true c13
     have c13b1 : decide (0 ≤ x3_1) = true := decide_eq_true c13
     clear c13
     by_cases c14 : x3_1 ≤ (s0_0.size : Int)
     ·rw [if_pos c14] at H
      have c14b0 := eq_true c14
      have c14b1 : decide (x3_1 ≤ (s0_0.size : Int)) = true := decide_eq_true c14
      clear c14
      have c15b0 := eq_true (of_decide_eq_true zb12 : 0 ≤ x3_1)
      have c16b0 := eq_true (of_decide_eq_true zb12 : x3_1 ≤ (s0_0.size : Int))
      simp only [Option.some.injEq, Prod.mk.injEq] at H
      obtain ⟨rfl, rfl⟩ := H
      obtain ⟨HGz17, hgz17⟩ := HI0.out
      have hcz17_0 := cellS72_0 HGz17
      have hfz17_0 := blk_frozen HGz17 0
      clear HGz17 hgz17
      go_wp2
      go_ret
      exact ⟨zb8, by repeat (first | (with_reducible first | exact HI0.out | apply IsS72.alloc | apply IsS72.drewN | apply IsS72.drew | apply IsS72.set_0) | exact HI0.out), by repeat (first | (with_reducible first | exact HB.out | apply below_alloc | apply pw_below_drewN | apply below_drew1 | refine below_set ?_ (IsS72.ge HI0.out)) | exact HB.out), by repeat (first | (with_reducible first | exact HK.out | apply KeepBut.set_ | apply keep_drewN | apply keep_drew | apply keep_alloc) | exact HK.out)⟩
     ·rw [if_neg c14] at H
      exact absurd H (by simp)
    ·rw [if_neg c13] at H
     exact absurd H (by simp)
end Go.Proofs.YtaopopnlnohnpaaDoor.P
/- Px6 -/
namespace Go.Proofs.YtaopopnlnohnpaaDoor.P
open Go.Proofs.YtaopopnlnohnpaaDoor.B
open Go.RowKit Go.Proofs.YtaopopnlnohnpaaDoorW.PrintWords Go.Proofs.YtaopopnlnohnpaaDoorW.PrintLast Go.Proofs.YtaopopnlnohnpaaDoorW.PrintMore
attribute [local go_sem] str_leq str_gtr str_geq max2_int min2_int max_two min_two max_three min_three max_four min_four
set_option linter.unusedVariables false
set_option linter.unusedSimpArgs false
def field_token.f (k : Nat) (a0 : ByteArray) : Option (Bool) := (media_Text_Token.f k a0).bind fun bt116 => (if bt116.1.toList = ([] : List UInt8) then (some false) else (some (bt116.2.toList == ([] : List UInt8))))
set_option maxHeartbeats 8000000 in
set_option maxRecDepth 100000 in
theorem field_token.calls (k : Nat) (a0 : ByteArray) (r : Bool) (w : World) (h : field_token.f k a0 = some r) :
  Calls Tryd.prog 24 #[.string a0] w fun e w' => e = .returned (.bool r) ∧ Below w.heap.size w w' := by
 have HB := Aside0.mk (Below.refl w.heap.size w)
 have H : ((media_Text_Token.f k a0).bind fun bt116 => (if bt116.1.toList = ([] : List UInt8) then (some false) else (some (bt116.2.toList == ([] : List UInt8))))) = some r := h
 clear h
 replace H := Option.bind_eq_some_iff.mp H
 obtain ⟨⟨t116, t117⟩, A20, H⟩ := H
 replace H : (if t116.toList = ([] : List UInt8) then (some false) else (some (t117.toList == ([] : List UInt8)))) = some r := H
 have A2 := Aside0.mk A20
 clear A20
 by_cases c3 : t116.toList = ([] : List UInt8)
 ·rw [if_pos c3] at H
  have c3b0 : (t116.toList == ([] : List UInt8)) = true := beq_iff_eq.mpr c3
  have c3b1 : (t116.toList != ([] : List UInt8)) = false := bne_eq_false_iff_eq.mpr c3
  clear c3
  obtain rfl := Option.some.inj H
  go_enter Tryd.func24, Tryd.ntmps24
  go_wp2_with (first | ((with_reducible refine gate_dst (N := 3) rfl ?_); refine box_event ?hg (N := 3) ?hd (cs := #[.string (⟨#[]⟩ : ByteArray)]) (t := 72) ?hr ?_; (case hd => rfl); (case hg => rfl); (case hr => first | (go_simp; done) | (go_simp; rfl)); intro gb115 hg w4 hbox hb; have n0_ := Aside0.mk (below_step zb0 hb); have n1_ := Aside0.mk ((by rw [hg]; exact (below_size zb0) : w.heap.size ≤ gb115)); have n2_ := Aside0.mk ((by rw [hg]; exact (below_size zb0) : w.heap.size ≤ gb115)); have n3_ := Aside0.mk ((show IsS72 w w4 gb115 (⟨#[]⟩ : ByteArray) from ⟨hbox, (by rw [hg]; exact (below_size zb0))⟩)); clear HB; have HB := n0_; have GW115 := n1_; have GE115 := n2_; have HI115 := n3_; clear n0_ n1_ n2_ n3_; clear hb hbox hg; obtain ⟨HGz5, hgz5⟩ := HI115.out; have hcz5_0 := cellS72_0 HGz5; have hfz5_0 := blk_frozen HGz5 0; clear HGz5 hgz5) | ((with_reducible refine gate_callee (f := 37) rfl ?_); refine goesL_ (some 5) rfl rfl Tryd.func37 zb11 rfl #[.pointer (some ⟨gb115, 0, none⟩)] rfl zb1 ?_; (with_reducible refine (media_Text_Token.calls k gb115 a0 t116 t117 w _ ?side1 ?side2 A2.out).mono ?_); (case side1 => repeat (first | (with_reducible first | exact HI115.out | apply IsS72.alloc | apply IsS72.drewN | apply IsS72.drew | apply IsS72.set_0) | exact HI115.out)); (case side2 => repeat (first | (with_reducible first | exact HB.out | apply below_alloc | apply pw_below_drewN | apply below_drew1 | refine below_set ?_ (IsS72.ge HI115.out)) | exact HB.out)); rintro e w6 ⟨rfl, hi, hb, hk⟩; refine ⟨_, rfl, ?_⟩; have n0_ := Aside0.mk (hb); have n1_ := Aside0.mk (hi); clear HB; clear HI115; have HB := n0_; have HI115 := n1_; clear n0_ n1_; (try clear hb); (try clear hb2); (try clear hk); (try clear hi)))
  go_ret
  exact ⟨zb8, (by repeat (first | (with_reducible first | exact HB.out | apply below_alloc | apply pw_below_drewN | apply below_drew1 | refine below_set ?_ (IsS72.ge HI115.out)) | exact HB.out))⟩
 ·rw [if_neg c3] at H
  have c3b0 : (t116.toList == ([] : List UInt8)) = false := beq_eq_false_iff_ne.mpr c3
  have c3b1 : (t116.toList != ([] : List UInt8)) = true := bne_iff_ne.mpr c3
  obtain rfl := Option.some.inj H
  go_enter Tryd.func24, Tryd.ntmps24
  go_wp2_with (first | ((with_reducible refine gate_dst (N := 3) rfl ?_); refine box_event ?hg (N := 3) ?hd (cs := #[.string (⟨#[]⟩ : ByteArray)]) (t := 72) ?hr ?_; (case hd => rfl); (case hg => rfl); (case hr => first | (go_simp; done) | (go_simp; rfl)); intro gb115 hg w7 hbox hb; have n0_ := Aside0.mk (below_step zb0 hb); have n1_ := Aside0.mk ((by rw [hg]; exact (below_size zb0) : w.heap.size ≤ gb115)); have n2_ := Aside0.mk ((by rw [hg]; exact (below_size zb0) : w.heap.size ≤ gb115)); have n3_ := Aside0.mk ((show IsS72 w w7 gb115 (⟨#[]⟩ : ByteArray) from ⟨hbox, (by rw [hg]; exact (below_size zb0))⟩)); clear HB; have HB := n0_; have GW115 := n1_; have GE115 := n2_; have HI115 := n3_; clear n0_ n1_ n2_ n3_; clear hb hbox hg; obtain ⟨HGz8, hgz8⟩ := HI115.out; have hcz8_0 := cellS72_0 HGz8; have hfz8_0 := blk_frozen HGz8 0; clear HGz8 hgz8) | ((with_reducible refine gate_callee (f := 37) rfl ?_); refine goesL_ (some 5) rfl rfl Tryd.func37 zb11 rfl #[.pointer (some ⟨gb115, 0, none⟩)] rfl zb1 ?_; (with_reducible refine (media_Text_Token.calls k gb115 a0 t116 t117 w _ ?side1 ?side2 A2.out).mono ?_); (case side1 => repeat (first | (with_reducible first | exact HI115.out | apply IsS72.alloc | apply IsS72.drewN | apply IsS72.drew | apply IsS72.set_0) | exact HI115.out)); (case side2 => repeat (first | (with_reducible first | exact HB.out | apply below_alloc | apply pw_below_drewN | apply below_drew1 | refine below_set ?_ (IsS72.ge HI115.out)) | exact HB.out)); rintro e w9 ⟨rfl, hi, hb, hk⟩; refine ⟨_, rfl, ?_⟩; have n0_ := Aside0.mk (hb); have n1_ := Aside0.mk (hi); clear HB; clear HI115; have HB := n0_; have HI115 := n1_; clear n0_ n1_; (try clear hb); (try clear hb2); (try clear hk); (try clear hi); obtain ⟨HGz10, hgz10⟩ := HI115.out; have hcz10_0 := cellS72_0 HGz10; have hfz10_0 := blk_frozen HGz10 0; clear HGz10 hgz10))
  go_ret
  exact ⟨zb8, (by repeat (first | (with_reducible first | exact HB.out | apply below_alloc | apply pw_below_drewN | apply below_drew1 | refine below_set ?_ (IsS72.ge HI115.out)) | exact HB.out))⟩
end Go.Proofs.YtaopopnlnohnpaaDoor.P
/- Oval -/
namespace Go.Proofs.YtaopopnlnohnpaaDoor.O
open Go.RowKit Go.Proofs.YtaopopnlnohnpaaDoorW.PrintWords Go.Proofs.YtaopopnlnohnpaaDoorW.PrintLast Go.Proofs.YtaopopnlnohnpaaDoorW.PrintMore
set_option linter.unusedVariables false
set_option linter.unusedSimpArgs false
def badI (c : Int) : Bool := decide (c < 32) && !(c == 9) || c == 127
def trimB (s : ByteArray) : ByteArray := ⟨(Lib.trimS s.data.toList [32, 9]).toArray⟩
def field_value.f (a0 : ByteArray) : Option Bool := if a0.size ≤ 9223372036854775807 then some (if (List.range a0.size).any (fun j => badI (bt a0 j)) = true then false else (trimB a0).toList == a0.toList) else none
theorem any_false (a0 : ByteArray) (h : ∀ j, j < a0.size → badI (bt a0 j) = false) : (List.range a0.size).any (fun j => badI (bt a0 j)) = false := by
  rw [List.any_eq_false]
  intro j hj
  rw [h j (List.mem_range.1 hj)]
  decide
theorem any_true (a0 : ByteArray) (k : Nat) (hk : k < a0.size) (h : badI (bt a0 k) = true) : (List.range a0.size).any (fun j => badI (bt a0 j)) = true := by
  rw [List.any_eq_true]
  exact ⟨k, List.mem_range.2 hk, h⟩
set_option maxHeartbeats 1000000 in
theorem field_value.calls (a0 : ByteArray) (r : Bool) (w : World) (h : field_value.f a0 = some r) :
    Calls Tryd.prog 25 #[.string a0] w fun e w' => e = .returned (.bool r) ∧ Below w.heap.size w w' := by
  unfold field_value.f at h
  split at h
  case isFalse => exact absurd h (by simp)
  rename_i hsz
  have hr := Lib.hid (Option.some.inj h)
  clear h
  have hconv := Lib.run_convert_string_bytes (P := Tryd.prog) w 9 50 5 a0 Tryd.underlying9 Tryd.underlying50 Tryd.underlying5
  have hb := Lib.hid (below_bytes w 5 a0)
  have hcell := Lib.hid (fun j hj => Lib.bytesWorld_cell w 5 a0 j hj)
  generalize Lib.bytesWorld w 5 a0 = w1 at *
  generalize grownCap w a0.size 0 5 = cap at *
  go_enter Tryd.func25, Tryd.ntmps25
  go_wp2
  go_loop [8] (fun i => ∃ k : Nat, k ≤ a0.size ∧ i = .int .i64 k ∧ Hid (∀ j : Nat, j < k → badI (bt a0 j) = false)) (fun i => a0.size - (intOf i).toNat)
  case atStart => exact ⟨0, Nat.zero_le _, rfl, Lib.hid (fun j hj => absurd hj zb26)⟩
  case round =>
    obtain ⟨k, hk, rfl, hgood⟩ := hrel
    by_cases hlt : k < a0.size
    · have hc : w1.cell? ⟨w.heap.size, k, none⟩ = some (.int .u8 (bt a0 k)) := by rw [hcell.out k hlt, bt_getD a0 k hlt]
      obtain ⟨q1, q2⟩ := bt_range a0 k
      have hbad : Hid (badI (bt a0 k) = true → r = false) := Lib.hid (fun hx => by
        have := hr.out
        rw [if_pos (any_true a0 k hlt hx)] at this
        exact this.symm)
      have hok : Hid (badI (bt a0 k) = false → ∀ j : Nat, j < k + 1 → badI (bt a0 j) = false) := Lib.hid (fun hx j hj => by
        by_cases hjk : j = k
        · subst hjk; exact hx
        · exact hgood.out j zb26)
      generalize bt a0 k = c at *
      by_cases h1 : c < 32
      · by_cases h2 : c = 9
        · subst h2
          have hk1 := Lib.hid (hok.out zb32)
          clear hok hbad
          go_wp2
          go_round
          case rel => exact ⟨k + 1, by omega, by go_num, hk1⟩
          case measure => simp [intOf]; omega
        · obtain rfl := hbad.out (by unfold badI; simp [h1, h2])
          go_wp2
          go_ret
          exact ⟨rfl, hb.out⟩
      · by_cases h3 : c = 127
        · subst h3
          obtain rfl := hbad.out zb32
          go_wp2
          go_ret
          exact ⟨rfl, hb.out⟩
        · have hx : badI c = false := by unfold badI; simp [h1, h3]
          have hk1 := Lib.hid (hok.out hx)
          have h1b : decide (c < 32) = false := decide_eq_false h1
          have h3b : decide (c = 127) = false := decide_eq_false h3
          have h3c : (c == 127) = false := by simpa using h3
          clear hx hok hbad
          go_wp2
          go_round
          case rel => exact ⟨k + 1, by omega, by go_num, hk1⟩
          case measure => simp [intOf]; omega
    · obtain rfl : k = a0.size := by omega
      have hT : strings_Trim.f a0 (⟨#[32, 9]⟩ : ByteArray) = some (trimB a0) := by
        unfold strings_Trim.f
        rw [if_pos ⟨hsz, by decide, by decide⟩]
        rfl
      have HT := Lib.hid (strings_Trim.calls a0 _ _ w1 hT)
      have hr2 : Hid (((trimB a0).toList == a0.toList) = r) := Lib.hid (by
        have := hr.out
        rw [if_neg (by rw [any_false a0 hgood.out]; decide)] at this
        exact this)
      generalize trimB a0 = t at *
      clear hT
      go_wp2_with (go_at_call 38; refine HT.out.mono ?_; rintro e w' ⟨rfl, hb2⟩)
      go_ret
      exact ⟨ret_bool hr2.out, below_step hb.out hb2⟩
end Go.Proofs.YtaopopnlnohnpaaDoor.O
/- Px10 -/
namespace Go.Proofs.YtaopopnlnohnpaaDoor.P
open Go.Proofs.YtaopopnlnohnpaaDoor.B
open Go.RowKit Go.Proofs.YtaopopnlnohnpaaDoorW.PrintWords Go.Proofs.YtaopopnlnohnpaaDoorW.PrintLast Go.Proofs.YtaopopnlnohnpaaDoorW.PrintMore
attribute [local go_sem] str_leq str_gtr str_geq max2_int min2_int max_two min_two max_three min_three max_four min_four
set_option linter.unusedVariables false
set_option linter.unusedSimpArgs false
open Go.Proofs.YtaopopnlnohnpaaDoor.O
def field_pair.f (k : Nat) (a0 : ByteArray) : Option (ByteArray × ByteArray × Bool) := (strings_Cut.f a0 (⟨#[58]⟩ : ByteArray)).bind fun bt147 => ((strings_Trim.f bt147.2.1 (⟨#[32, 9]⟩ : ByteArray)).bind fun t150 => ((media_Small.f bt147.1).bind fun t151 => (if bt147.2.2 = true then ((field_token.f k bt147.1).bind fun t152 => (if t152 = true then ((field_value.f t150).bind fun t153 => (some (t151, t150, t153))) else (some (t151, t150, false)))) else (some (t151, t150, false)))))
set_option maxHeartbeats 8000000 in
set_option maxRecDepth 100000 in
theorem field_pair.calls (k : Nat) (a0 : ByteArray) (r1 : ByteArray) (r2 : ByteArray) (r3 : Bool) (w : World) (hG : Glob w) (h : field_pair.f k a0 = some (r1, r2, r3)) :
  Calls Tryd.prog 33 #[.string a0] w fun e w' => e = .returned (.tuple #[.agg #[.string r1, .string r2], .bool r3]) ∧ Below w.heap.size w w' := by
 have hu35 := Tryd.underlying35
 have HB := Aside0.mk (Below.refl w.heap.size w)
 have hGA := Aside0.mk hG
 clear hG
 have H : ((strings_Cut.f a0 (⟨#[58]⟩ : ByteArray)).bind fun bt147 => ((strings_Trim.f bt147.2.1 (⟨#[32, 9]⟩ : ByteArray)).bind fun t150 => ((media_Small.f bt147.1).bind fun t151 => (if bt147.2.2 = true then ((field_token.f k bt147.1).bind fun t152 => (if t152 = true then ((field_value.f t150).bind fun t153 => (some (t151, t150, t153))) else (some (t151, t150, false)))) else (some (t151, t150, false)))))) = some (r1, r2, r3) := h
 clear h
 replace H := Option.bind_eq_some_iff.mp H
 obtain ⟨⟨t147, t148, t149⟩, A20, H⟩ := H
 replace H : ((strings_Trim.f t148 (⟨#[32, 9]⟩ : ByteArray)).bind fun t150 => ((media_Small.f t147).bind fun t151 => (if t149 = true then ((field_token.f k t147).bind fun t152 => (if t152 = true then ((field_value.f t150).bind fun t153 => (some (t151, t150, t153))) else (some (t151, t150, false)))) else (some (t151, t150, false))))) = some (r1, r2, r3) := H
 have A2 := Aside0.mk A20
 clear A20
 replace H := Option.bind_eq_some_iff.mp H
 obtain ⟨t150, A30, H⟩ := H
 replace H : ((media_Small.f t147).bind fun t151 => (if t149 = true then ((field_token.f k t147).bind fun t152 => (if t152 = true then ((field_value.f t150).bind fun t153 => (some (t151, t150, t153))) else (some (t151, t150, false)))) else (some (t151, t150, false)))) = some (r1, r2, r3) := H
 have A3 := Aside0.mk A30
 clear A30
 replace H := Option.bind_eq_some_iff.mp H
 obtain ⟨t151, A40, H⟩ := H
 replace H : (if t149 = true then ((field_token.f k t147).bind fun t152 => (if t152 = true then ((field_value.f t150).bind fun t153 => (some (t151, t150, t153))) else (some (t151, t150, false)))) else (some (t151, t150, false))) = some (r1, r2, r3) := H
 have A4 := Aside0.mk A40
 clear A40
 by_cases c5 : t149 = true
 ·subst c5
  replace H : ((field_token.f k t147).bind fun t152 => (if t152 = true then ((field_value.f t150).bind fun t153 => (some (t151, t150, t153))) else (some (t151, t150, false)))) = some (r1, r2, r3) := by rw [if_pos rfl] at H; exact H
  replace H := Option.bind_eq_some_iff.mp H
  obtain ⟨t152, A60, H⟩ := H
  replace H : (if t152 = true then ((field_value.f t150).bind fun t153 => (some (t151, t150, t153))) else (some (t151, t150, false))) = some (r1, r2, r3) := H
  have A6 := Aside0.mk A60
  clear A60
  by_cases c7 : t152 = true
  ·subst c7
   replace H : ((field_value.f t150).bind fun t153 => (some (t151, t150, t153))) = some (r1, r2, r3) := by rw [if_pos rfl] at H; exact H
   replace H := Option.bind_eq_some_iff.mp H
   obtain ⟨t153, A80, H⟩ := H
   replace H : (some (t151, t150, t153)) = some (r1, r2, r3) := H
   have A8 := Aside0.mk A80
   clear A80
   simp only [Option.some.injEq, Prod.mk.injEq] at H
   obtain ⟨rfl, rfl, rfl⟩ := H
   go_enter Tryd.func33, Tryd.ntmps33
   go_wp2_with (first | ((with_reducible refine gate_dst (N := 2) rfl ?_); refine box_event ?hg (N := 2) ?hd (cs := #[.string (⟨#[]⟩ : ByteArray), .string (⟨#[]⟩ : ByteArray)]) (t := 35) ?hr ?_; (case hd => rfl); (case hg => rfl); (case hr => first | (go_simp; done) | (go_simp; rfl)); intro gb146 hg w9 hbox hb; have n0_ := Aside0.mk (below_step zb0 hb); have n1_ := Aside0.mk (hbox); have n2_ := Aside0.mk ((by rw [hg]; exact (below_size zb0) : w.heap.size ≤ gb146)); have n3_ := Aside0.mk ((by rw [hg]; exact (below_size zb0) : w.heap.size ≤ gb146)); clear HB; have HB := n0_; have BK146 := n1_; have GW146 := n2_; have GE146 := n3_; clear n0_ n1_ n2_ n3_; clear hb hbox hg) | ((with_reducible refine gate_callee (f := 18) rfl ?_); refine goesL_ (some 9) rfl rfl Tryd.func18 zb11 rfl #[.string a0, .string (⟨#[58]⟩ : ByteArray)] rfl zb1 ?_; (with_reducible refine (strings_Cut.calls a0 (⟨#[58]⟩ : ByteArray) t147 t148 true _ ?side1 A2.out).mono ?_); (case side1 => exact Glob.below hGA.out zb9); rintro e w10 ⟨rfl, hb⟩; refine ⟨_, rfl, ?_⟩; have n0_ := Aside0.mk (blk_below (g := gb146) (o := .cells #[.string (⟨#[]⟩ : ByteArray), .string (⟨#[]⟩ : ByteArray)] 35 (0, 0)) zb16 hb); have n1_ := Aside0.mk (below_step zb9 hb); clear BK146; clear HB; have BK146 := n0_; have HB := n1_; clear n0_ n1_; (try clear hb); (try clear hb2); (try clear hk); (try clear hi)) | ((with_reducible refine gate_callee (f := 38) rfl ?_); refine goesL_ (some 14) rfl rfl Tryd.func38 zb11 rfl #[.string t148, .string (⟨#[32, 9]⟩ : ByteArray)] rfl zb1 ?_; (with_reducible refine (strings_Trim.calls t148 (⟨#[32, 9]⟩ : ByteArray) t150 _ A3.out).mono ?_); rintro e w11 ⟨rfl, hb⟩; refine ⟨_, rfl, ?_⟩; have n0_ := Aside0.mk (blk_below (g := gb146) (o := .cells #[.string (⟨#[]⟩ : ByteArray), .string (⟨#[]⟩ : ByteArray)] 35 (0, 0)) zb16 hb); have n1_ := Aside0.mk (below_step zb9 hb); clear BK146; clear HB; have BK146 := n0_; have HB := n1_; clear n0_ n1_; (try clear hb); (try clear hb2); (try clear hk); (try clear hi)) | ((with_reducible refine gate_callee (f := 34) rfl ?_); refine goesL_ (some 16) rfl rfl Tryd.func34 zb11 rfl #[.string t147] rfl zb1 ?_; (with_reducible refine (media_Small.calls t147 t151 _ A4.out).mono ?_); rintro e w12 ⟨rfl, hb⟩; refine ⟨_, rfl, ?_⟩; have n0_ := Aside0.mk (blk_below (g := gb146) (o := .cells #[.string (⟨#[]⟩ : ByteArray), .string (⟨#[]⟩ : ByteArray)] 35 (0, 0)) zb16 hb); have n1_ := Aside0.mk (below_step zb9 hb); clear BK146; clear HB; have BK146 := n0_; have HB := n1_; clear n0_ n1_; (try clear hb); (try clear hb2); (try clear hk); (try clear hi)) | (go_at_call 24; (with_reducible refine (field_token.calls k t147 true _ A6.out).mono ?_); rintro e w13 ⟨rfl, hb⟩; have n0_ := Aside0.mk (blk_below (g := gb146) (o := .cells #[.string (⟨#[]⟩ : ByteArray), .string (⟨#[]⟩ : ByteArray)] 35 (0, 0)) zb16 hb); have n1_ := Aside0.mk (below_step zb9 hb); clear BK146; clear HB; have BK146 := n0_; have HB := n1_; clear n0_ n1_; (try clear hb); (try clear hb2); (try clear hk); (try clear hi)) | (go_at_call 25; (with_reducible refine (field_value.calls t150 t153 _ A8.out).mono ?_); rintro e w14 ⟨rfl, hb⟩; have n0_ := Aside0.mk (blk_below (g := gb146) (o := .cells #[.string (⟨#[]⟩ : ByteArray), .string (⟨#[]⟩ : ByteArray)] 35 (0, 0)) zb16 hb); have n1_ := Aside0.mk (below_step zb9 hb); clear BK146; clear HB; have BK146 := n0_; have HB := n1_; clear n0_ n1_; (try clear hb); (try clear hb2); (try clear hk); (try clear hi); have hcz15_0 : w14.cell? ⟨gb146, 0, none⟩ = some (.string (⟨#[]⟩ : ByteArray)) := (blk_cell BK146.out 0).trans rfl; have hcz15_1 : w14.cell? ⟨gb146, 1, none⟩ = some (.string (⟨#[]⟩ : ByteArray)) := (blk_cell BK146.out 1).trans rfl; have hfz15_0 := blk_frozen BK146.out 0; have hfz15_1 := blk_frozen BK146.out 1))
   refine bodyPost_ret (results_ct rfl _ _ gb146 35 #[.string t151, .string t150] (0, 0) _ rfl zb22 Tryd.underlying35 rfl zb11) rfl ?_
   exact ⟨zb8, zb9⟩
  ·replace c7 := Bool.eq_false_iff.mpr c7
   subst c7
   replace H : (some (t151, t150, false)) = some (r1, r2, r3) := by rw [if_neg (show ¬ (false = true) by decide)] at H; exact H
   simp only [Option.some.injEq, Prod.mk.injEq] at H
   obtain ⟨rfl, rfl, rfl⟩ := H
   go_enter Tryd.func33, Tryd.ntmps33
   go_wp2_with (first | ((with_reducible refine gate_dst (N := 2) rfl ?_); refine box_event ?hg (N := 2) ?hd (cs := #[.string (⟨#[]⟩ : ByteArray), .string (⟨#[]⟩ : ByteArray)]) (t := 35) ?hr ?_; (case hd => rfl); (case hg => rfl); (case hr => first | (go_simp; done) | (go_simp; rfl)); intro gb146 hg w16 hbox hb; have n0_ := Aside0.mk (below_step zb0 hb); have n1_ := Aside0.mk (hbox); have n2_ := Aside0.mk ((by rw [hg]; exact (below_size zb0) : w.heap.size ≤ gb146)); have n3_ := Aside0.mk ((by rw [hg]; exact (below_size zb0) : w.heap.size ≤ gb146)); clear HB; have HB := n0_; have BK146 := n1_; have GW146 := n2_; have GE146 := n3_; clear n0_ n1_ n2_ n3_; clear hb hbox hg) | ((with_reducible refine gate_callee (f := 18) rfl ?_); refine goesL_ (some 9) rfl rfl Tryd.func18 zb11 rfl #[.string a0, .string (⟨#[58]⟩ : ByteArray)] rfl zb1 ?_; (with_reducible refine (strings_Cut.calls a0 (⟨#[58]⟩ : ByteArray) t147 t148 true _ ?side1 A2.out).mono ?_); (case side1 => exact Glob.below hGA.out zb9); rintro e w17 ⟨rfl, hb⟩; refine ⟨_, rfl, ?_⟩; have n0_ := Aside0.mk (blk_below (g := gb146) (o := .cells #[.string (⟨#[]⟩ : ByteArray), .string (⟨#[]⟩ : ByteArray)] 35 (0, 0)) zb16 hb); have n1_ := Aside0.mk (below_step zb9 hb); clear BK146; clear HB; have BK146 := n0_; have HB := n1_; clear n0_ n1_; (try clear hb); (try clear hb2); (try clear hk); (try clear hi)) | ((with_reducible refine gate_callee (f := 38) rfl ?_); refine goesL_ (some 14) rfl rfl Tryd.func38 zb11 rfl #[.string t148, .string (⟨#[32, 9]⟩ : ByteArray)] rfl zb1 ?_; (with_reducible refine (strings_Trim.calls t148 (⟨#[32, 9]⟩ : ByteArray) t150 _ A3.out).mono ?_); rintro e w18 ⟨rfl, hb⟩; refine ⟨_, rfl, ?_⟩; have n0_ := Aside0.mk (blk_below (g := gb146) (o := .cells #[.string (⟨#[]⟩ : ByteArray), .string (⟨#[]⟩ : ByteArray)] 35 (0, 0)) zb16 hb); have n1_ := Aside0.mk (below_step zb9 hb); clear BK146; clear HB; have BK146 := n0_; have HB := n1_; clear n0_ n1_; (try clear hb); (try clear hb2); (try clear hk); (try clear hi)) | ((with_reducible refine gate_callee (f := 34) rfl ?_); refine goesL_ (some 16) rfl rfl Tryd.func34 zb11 rfl #[.string t147] rfl zb1 ?_; (with_reducible refine (media_Small.calls t147 t151 _ A4.out).mono ?_); rintro e w19 ⟨rfl, hb⟩; refine ⟨_, rfl, ?_⟩; have n0_ := Aside0.mk (blk_below (g := gb146) (o := .cells #[.string (⟨#[]⟩ : ByteArray), .string (⟨#[]⟩ : ByteArray)] 35 (0, 0)) zb16 hb); have n1_ := Aside0.mk (below_step zb9 hb); clear BK146; clear HB; have BK146 := n0_; have HB := n1_; clear n0_ n1_; (try clear hb); (try clear hb2); (try clear hk); (try clear hi)) | (go_at_call 24; (with_reducible refine (field_token.calls k t147 false _ A6.out).mono ?_); rintro e w20 ⟨rfl, hb⟩; have n0_ := Aside0.mk (blk_below (g := gb146) (o := .cells #[.string (⟨#[]⟩ : ByteArray), .string (⟨#[]⟩ : ByteArray)] 35 (0, 0)) zb16 hb); have n1_ := Aside0.mk (below_step zb9 hb); clear BK146; clear HB; have BK146 := n0_; have HB := n1_; clear n0_ n1_; (try clear hb); (try clear hb2); (try clear hk); (try clear hi); have hcz21_0 : w20.cell? ⟨gb146, 0, none⟩ = some (.string (⟨#[]⟩ : ByteArray)) := (blk_cell BK146.out 0).trans rfl; have hcz21_1 : w20.cell? ⟨gb146, 1, none⟩ = some (.string (⟨#[]⟩ : ByteArray)) := (blk_cell BK146.out 1).trans rfl; have hfz21_0 := blk_frozen BK146.out 0; have hfz21_1 := blk_frozen BK146.out 1))
   refine bodyPost_ret (results_ct rfl _ _ gb146 35 #[.string t151, .string t150] (0, 0) _ rfl zb22 Tryd.underlying35 rfl zb11) rfl ?_
   exact ⟨zb8, zb9⟩
 ·replace c5 := Bool.eq_false_iff.mpr c5
  subst c5
  replace H : (some (t151, t150, false)) = some (r1, r2, r3) := by rw [if_neg (show ¬ (false = true) by decide)] at H; exact H
  simp only [Option.some.injEq, Prod.mk.injEq] at H
  obtain ⟨rfl, rfl, rfl⟩ := H
  go_enter Tryd.func33, Tryd.ntmps33
  go_wp2_with (first | ((with_reducible refine gate_dst (N := 2) rfl ?_); refine box_event ?hg (N := 2) ?hd (cs := #[.string (⟨#[]⟩ : ByteArray), .string (⟨#[]⟩ : ByteArray)]) (t := 35) ?hr ?_; (case hd => rfl); (case hg => rfl); (case hr => first | (go_simp; done) | (go_simp; rfl)); intro gb146 hg w22 hbox hb; have n0_ := Aside0.mk (below_step zb0 hb); have n1_ := Aside0.mk (hbox); have n2_ := Aside0.mk ((by rw [hg]; exact (below_size zb0) : w.heap.size ≤ gb146)); have n3_ := Aside0.mk ((by rw [hg]; exact (below_size zb0) : w.heap.size ≤ gb146)); clear HB; have HB := n0_; have BK146 := n1_; have GW146 := n2_; have GE146 := n3_; clear n0_ n1_ n2_ n3_; clear hb hbox hg) | ((with_reducible refine gate_callee (f := 18) rfl ?_); refine goesL_ (some 9) rfl rfl Tryd.func18 zb11 rfl #[.string a0, .string (⟨#[58]⟩ : ByteArray)] rfl zb1 ?_; (with_reducible refine (strings_Cut.calls a0 (⟨#[58]⟩ : ByteArray) t147 t148 false _ ?side1 A2.out).mono ?_); (case side1 => exact Glob.below hGA.out zb9); rintro e w23 ⟨rfl, hb⟩; refine ⟨_, rfl, ?_⟩; have n0_ := Aside0.mk (blk_below (g := gb146) (o := .cells #[.string (⟨#[]⟩ : ByteArray), .string (⟨#[]⟩ : ByteArray)] 35 (0, 0)) zb16 hb); have n1_ := Aside0.mk (below_step zb9 hb); clear BK146; clear HB; have BK146 := n0_; have HB := n1_; clear n0_ n1_; (try clear hb); (try clear hb2); (try clear hk); (try clear hi)) | ((with_reducible refine gate_callee (f := 38) rfl ?_); refine goesL_ (some 14) rfl rfl Tryd.func38 zb11 rfl #[.string t148, .string (⟨#[32, 9]⟩ : ByteArray)] rfl zb1 ?_; (with_reducible refine (strings_Trim.calls t148 (⟨#[32, 9]⟩ : ByteArray) t150 _ A3.out).mono ?_); rintro e w24 ⟨rfl, hb⟩; refine ⟨_, rfl, ?_⟩; have n0_ := Aside0.mk (blk_below (g := gb146) (o := .cells #[.string (⟨#[]⟩ : ByteArray), .string (⟨#[]⟩ : ByteArray)] 35 (0, 0)) zb16 hb); have n1_ := Aside0.mk (below_step zb9 hb); clear BK146; clear HB; have BK146 := n0_; have HB := n1_; clear n0_ n1_; (try clear hb); (try clear hb2); (try clear hk); (try clear hi)) | ((with_reducible refine gate_callee (f := 34) rfl ?_); refine goesL_ (some 16) rfl rfl Tryd.func34 zb11 rfl #[.string t147] rfl zb1 ?_; (with_reducible refine (media_Small.calls t147 t151 _ A4.out).mono ?_); rintro e w25 ⟨rfl, hb⟩; refine ⟨_, rfl, ?_⟩; have n0_ := Aside0.mk (blk_below (g := gb146) (o := .cells #[.string (⟨#[]⟩ : ByteArray), .string (⟨#[]⟩ : ByteArray)] 35 (0, 0)) zb16 hb); have n1_ := Aside0.mk (below_step zb9 hb); clear BK146; clear HB; have BK146 := n0_; have HB := n1_; clear n0_ n1_; (try clear hb); (try clear hb2); (try clear hk); (try clear hi); have hcz26_0 : w25.cell? ⟨gb146, 0, none⟩ = some (.string (⟨#[]⟩ : ByteArray)) := (blk_cell BK146.out 0).trans rfl; have hcz26_1 : w25.cell? ⟨gb146, 1, none⟩ = some (.string (⟨#[]⟩ : ByteArray)) := (blk_cell BK146.out 1).trans rfl; have hfz26_0 := blk_frozen BK146.out 0; have hfz26_1 := blk_frozen BK146.out 1))
  refine bodyPost_ret (results_ct rfl _ _ gb146 35 #[.string t151, .string t150] (0, 0) _ rfl zb22 Tryd.underlying35 rfl zb11) rfl ?_
  exact ⟨zb8, zb9⟩
end Go.Proofs.YtaopopnlnohnpaaDoor.P
/- By -/
namespace Go.Proofs.YtaopopnlnohnpaaDoor.Sp
open Go Go.RowKit Go.Proofs.YtaopopnlnohnpaaDoorW.PrintWords Go.Proofs.YtaopopnlnohnpaaDoorW.PrintLast Go.Proofs.YtaopopnlnohnpaaDoor.O
set_option linter.unusedVariables false
set_option linter.unusedSimpArgs false
def mk (l : L) : ByteArray := ⟨l.toArray⟩
theorem mk_data (l : L) : (mk l).data.toList = l := by simp [mk]
theorem mk_self (s : ByteArray) : mk s.data.toList = s := by cases s; simp [mk]
theorem ba_ext {a b : ByteArray} (h : a.data.toList = b.data.toList) : a = b := by rw [← mk_self a, ← mk_self b, h]
theorem mk_size (l : L) : (mk l).size = l.length := by rw [Lib.size_eq, mk_data]
theorem mk_append (a b : L) : mk a ++ mk b = mk (a ++ b) := ba_ext (by simp [mk_data])
theorem ext_sub (s : ByteArray) (a b : Nat) : s.extract a b = mk ((s.data.toList.drop a).take (b - a)) := ba_ext (by rw [Lib.extract_data, mk_data])
theorem ext_mk (l : L) (a b : Nat) : (mk l).extract a b = mk ((l.drop a).take (b - a)) := by rw [ext_sub, mk_data]
theorem ext_to (l : L) (a : Nat) : (mk l).extract 0 a = mk (l.take a) := by rw [ext_mk]; rfl
theorem ext_from (l : L) (a : Nat) : (mk l).extract a (mk l).size = mk (l.drop a) := by rw [ext_mk, mk_size, List.take_of_length_le (by rw [List.length_drop]; omega)]
theorem tl (s : ByteArray) : s.toList = s.data.toList := Lib.toList_data s
theorem tl_mk (l : L) : (mk l).toList = l := by rw [tl, mk_data]
theorem wrap_id {x : Int} (h1 : -9223372036854775808 ≤ x) (h2 : x ≤ 9223372036854775807) : wrap64 x = x := by unfold wrap64; omega
/-- The byte at a place, the rest of the text beside it. -/
theorem drop_bt (s : ByteArray) (i : Nat) (h : i < s.size) : ∃ b : UInt8, s.data.toList.drop i = b :: s.data.toList.drop (i + 1) ∧ bt s i = b.toNat := by
  have h' : i < s.data.toList.length := by rw [← Lib.size_eq]; exact h
  refine ⟨s.data.toList[i], List.drop_eq_getElem_cons h', ?_⟩
  rw [← bt_getD s i h, List.getD_eq_getElem?_getD, List.getElem?_eq_getElem h']
  rfl
theorem mk_bt (l : L) (i : Nat) (h : i < l.length) : ∃ b : UInt8, l.drop i = b :: l.drop (i + 1) ∧ bt (mk l) i = b.toNat := by
  have := drop_bt (mk l) i (by rw [mk_size]; exact h)
  rwa [mk_data] at this
theorem u8_eq (c : UInt8) (n : Nat) (h : n < 256) : c.toNat = n ↔ c = UInt8.ofNat n := by
  constructor
  · intro e
    apply UInt8.toNat_inj.1
    rw [e, UInt8.toNat_ofNat']
    omega
  · intro e
    rw [e, UInt8.toNat_ofNat']
    omega
theorem u8i (c : UInt8) (n : Nat) (h : n < 256) : ((c.toNat : Int) = (n : Int)) ↔ c = UInt8.ofNat n := by
  rw [← u8_eq c n h]
  omega
theorem wf_u8 {x : Int} (h : (Lit.int .u8 x).wf = true) : 0 ≤ x ∧ x < 256 := by
  have h' : IntKind.u8.min ≤ x ∧ x ≤ IntKind.u8.max := by simpa [Lit.wf] using h
  rw [show IntKind.u8.min = 0 from by decide, show IntKind.u8.max = 255 from by decide] at h'
  omega
def pairsB (l : List (L × L)) : List P.S35 := l.map fun p => ⟨mk p.1, mk p.2⟩
theorem pairsB_app (a b : List (L × L)) : pairsB (a ++ b) = pairsB a ++ pairsB b := by simp [pairsB]
theorem pairsB_len (a : List (L × L)) : (pairsB a).length = a.length := by simp [pairsB]
end Go.Proofs.YtaopopnlnohnpaaDoor.Sp
/- SpC -/
namespace Go.Proofs.YtaopopnlnohnpaaDoor.Sp
open Go Go.RowKit Go.Proofs.YtaopopnlnohnpaaDoorW.PrintWords Go.Proofs.YtaopopnlnohnpaaDoorW.PrintLast Go.Proofs.YtaopopnlnohnpaaDoor.O Go.Proofs.YtaopopnlnohnpaaDoor.P
set_option linter.unusedVariables false
set_option linter.unusedSimpArgs false
theorem sig_all : ∀ a : Fin 256, (decide (Lib.indexByte signs (UInt8.ofNat a.val) ≥ 0)) = signs.contains (UInt8.ofNat a.val) := by decide +kernel
theorem u8_fin (c : UInt8) : ∃ a : Fin 256, c = UInt8.ofNat a.val := ⟨⟨c.toNat, c.toNat_lt⟩, by simp⟩
theorem sig_index (c : UInt8) : Lib.indexByte signs c ≥ 0 ↔ tokB c = true := by
  obtain ⟨a, rfl⟩ := u8_fin c
  have := sig_all a
  unfold tokB
  rw [← this]
  simp
theorem sigF (c : UInt8) : strings_IndexByte.f (mk signs) (c.toNat : Int) = some (Lib.indexByte signs c) := by
  unfold strings_IndexByte.f
  rw [mk_data]
  congr 2
  simp
theorem take_tw (p : UInt8 → Bool) (s : L) : s.take (s.takeWhile p).length = s.takeWhile p := by
  have h : s.takeWhile p ++ s.dropWhile p = s := List.takeWhile_append_dropWhile
  generalize s.takeWhile p = a at *
  generalize s.dropWhile p = b at *
  subst h
  simp
theorem drop_tw (p : UInt8 → Bool) (s : L) : s.drop (s.takeWhile p).length = s.dropWhile p := by
  have h : s.takeWhile p ++ s.dropWhile p = s := List.takeWhile_append_dropWhile
  generalize s.takeWhile p = a at *
  generalize s.dropWhile p = b at *
  subst h
  simp
theorem tw_len (p : UInt8 → Bool) (s : L) : (s.takeWhile p).length ≤ s.length := by
  have h : s.takeWhile p ++ s.dropWhile p = s := List.takeWhile_append_dropWhile
  have := congrArg List.length h
  rw [List.length_append] at this
  omega
theorem dw_len (p : UInt8 → Bool) (s : L) : (s.dropWhile p).length ≤ s.length := by
  have h : s.takeWhile p ++ s.dropWhile p = s := List.takeWhile_append_dropWhile
  have := congrArg List.length h
  rw [List.length_append] at this
  omega
theorem tok_l0 (s : L) (hs : s.length ≤ 1000000000000) : ∀ (d k i : Nat), i + d = s.length → d < k →
    media_Text_Token.l0 k i (mk s) = some (mk (s.take (i + ((s.drop i).takeWhile tokB).length)), mk (s.drop (i + ((s.drop i).takeWhile tokB).length))) := by
  intro d
  induction d with
  | zero =>
    intro k i hi hk
    obtain ⟨k, rfl⟩ : ∃ k', k = k' + 1 := ⟨k - 1, by omega⟩
    rw [media_Text_Token.l0, if_neg (by rw [mk_size]; omega), if_pos (by omega), if_pos (by rw [mk_size]; omega), List.drop_eq_nil_of_le (by omega)]
    simp only [Int.toNat_natCast, List.takeWhile_nil, List.length_nil, Nat.add_zero, ext_to, ext_from]
  | succ d ih =>
    intro k i hi hk
    obtain ⟨k, rfl⟩ : ∃ k', k = k' + 1 := ⟨k - 1, by omega⟩
    obtain ⟨b, e1, e2⟩ := mk_bt s i (by omega)
    have hw : wrap64 ((i : Int) + 1) = ((i + 1 : Nat) : Int) := by rw [wrap_id (by omega) (by omega)]; omega
    rw [media_Text_Token.l0, if_pos (by rw [mk_size]; omega), if_pos (by omega), e2]
    rw [show (⟨#[48, 49, 50, 51, 52, 53, 54, 55, 56, 57, 65, 66, 67, 68, 69, 70, 71, 72, 73, 74, 75, 76, 77, 78, 79, 80, 81, 82, 83, 84, 85, 86, 87, 88, 89, 90, 97, 98, 99, 100, 101, 102, 103, 104, 105, 106, 107, 108, 109, 110, 111, 112, 113, 114, 115, 116, 117, 118, 119, 120, 121, 122, 33, 35, 36, 37, 38, 39, 42, 43, 45, 46, 94, 95, 96, 124, 126]⟩ : ByteArray) = mk signs from rfl, sigF]
    simp only [Option.bind_some]
    by_cases ht : tokB b = true
    · rw [if_pos ((sig_index b).2 ht), hw, ih k (i + 1) (by omega) (by omega), e1, List.takeWhile_cons_of_pos ht]
      simp only [List.length_cons]
      rw [show i + 1 + ((s.drop (i + 1)).takeWhile tokB).length = i + (((s.drop (i + 1)).takeWhile tokB).length + 1) by omega]
    · rw [if_neg (fun h => ht ((sig_index b).1 h)), if_pos (by rw [mk_size]; omega), e1, List.takeWhile_cons_of_neg ht]
      simp only [Int.toNat_natCast, List.length_nil, Nat.add_zero, ext_to, ext_from]
theorem tokF (s : L) (k : Nat) (hs : s.length ≤ 1000000000000) (hk : s.length < k) : media_Text_Token.f k (mk s) = some (mk (tok s).1, mk (tok s).2) := by
  unfold media_Text_Token.f
  have := tok_l0 s hs s.length k 0 (by omega) hk
  simp only [List.drop_zero, Nat.zero_add] at this
  rw [show (0 : Int) = ((0 : Nat) : Int) from rfl, this, take_tw, drop_tw]
  rfl
def isTok (s : L) : Bool := decide ((tok s).1 ≠ []) && decide ((tok s).2 = [])
theorem isTokF (s : L) (k : Nat) (hs : s.length ≤ 1000000000000) (hk : s.length < k) : field_token.f k (mk s) = some (isTok s) := by
  unfold field_token.f isTok
  rw [tokF s k hs hk]
  simp only [Option.bind_some, tl_mk]
  by_cases h : (tok s).1 = []
  · rw [if_pos h]; simp [h]
  · rw [if_neg h]
    simp [h]
    by_cases h2 : (tok s).2 = [] <;> simp [h2]
theorem bl_all : ∀ a : Fin 256, ([32, 9] : L).contains (UInt8.ofNat a.val) = bl (UInt8.ofNat a.val) := by decide +kernel
theorem bl_eq : ([32, 9].contains · : UInt8 → Bool) = bl := by
  funext c
  obtain ⟨a, rfl⟩ := u8_fin c
  exact bl_all a
theorem mem_tw {p : UInt8 → Bool} : ∀ {s : L} {x : UInt8}, x ∈ s.takeWhile p → p x = true
  | [], _, h => by simp at h
  | c :: s, x, h => by
    by_cases hc : p c = true
    · rw [List.takeWhile_cons_of_pos hc] at h
      rcases List.mem_cons.1 h with rfl | h
      · exact hc
      · exact mem_tw h
    · rw [List.takeWhile_cons_of_neg hc] at h
      simp at h
theorem rd_app (a b : L) (h : skip b.reverse ≠ []) : skip (a ++ b).reverse = skip b.reverse ++ a.reverse := by
  unfold skip at *
  rw [List.reverse_append]
  generalize b.reverse = u at *
  induction u with
  | nil => simp at h
  | cons c u ih =>
    by_cases hc : bl c = true
    · rw [List.dropWhile_cons_of_pos hc] at h
      rw [List.cons_append, List.dropWhile_cons_of_pos hc, List.dropWhile_cons_of_pos hc]
      exact ih h
    · rw [List.cons_append, List.dropWhile_cons_of_neg hc, List.dropWhile_cons_of_neg hc, List.cons_append]
theorem skip_nil {s : L} (h : skip s = []) : ∀ c ∈ s, bl c = true := by
  induction s with
  | nil => simp
  | cons c s ih =>
    unfold skip at h ih
    by_cases hc : bl c = true
    · rw [List.dropWhile_cons_of_pos hc] at h
      intro d hd
      rcases List.mem_cons.1 hd with rfl | hd
      · exact hc
      · exact ih h d hd
    · rw [List.dropWhile_cons_of_neg hc] at h
      simp at h
theorem skip_all {s : L} (h : ∀ c ∈ s, bl c = true) : skip s = [] := by
  induction s with
  | nil => rfl
  | cons c s ih =>
    unfold skip at ih ⊢
    rw [List.dropWhile_cons_of_pos (h c (by simp))]
    exact ih (fun d hd => h d (by simp [hd]))
theorem skip_head {s : L} (h : skip s ≠ []) : ∃ c r, skip s = c :: r ∧ bl c = false := by
  induction s with
  | nil => simp [skip] at h
  | cons c s ih =>
    unfold skip at h ih ⊢
    by_cases hc : bl c = true
    · rw [List.dropWhile_cons_of_pos hc] at h ⊢
      exact ih h
    · rw [List.dropWhile_cons_of_neg hc]
      exact ⟨c, s, rfl, by simpa using hc⟩
theorem trim_comm (s : L) : skip (skip s.reverse).reverse = trim s := by
  unfold trim
  by_cases h : skip s = []
  · have ha := skip_nil h
    rw [h, skip_all (s := s.reverse) (fun c hc => ha c (List.mem_reverse.1 hc))]
    rfl
  · obtain ⟨c, r, e, hc⟩ := skip_head h
    have hs : s = s.takeWhile bl ++ skip s := (List.takeWhile_append_dropWhile).symm
    have hne : skip (skip s).reverse ≠ [] := by
      intro e2
      have := skip_nil e2 c (by rw [e]; simp)
      rw [hc] at this
      simp at this
    have h1 : skip s.reverse = skip (skip s).reverse ++ (s.takeWhile bl).reverse := by
      conv => lhs; rw [hs]
      exact rd_app _ _ hne
    rw [h1, List.reverse_append, List.reverse_reverse]
    -- the head that is kept is no blank
    have hb : ∀ x ∈ s.takeWhile bl, bl x = true := fun x hx => mem_tw hx
    have hk : ∃ d t, (skip (skip s).reverse).reverse = d :: t ∧ bl d = false := by
      have hpre : ∃ t, (skip s).reverse = t ++ skip (skip s).reverse := ⟨(skip s).reverse.takeWhile bl, (List.takeWhile_append_dropWhile).symm⟩
      obtain ⟨t, ht⟩ := hpre
      have h3 := congrArg List.reverse ht
      rw [List.reverse_reverse, List.reverse_append] at h3
      cases e4 : (skip (skip s).reverse).reverse with
      | nil => exact absurd (List.reverse_eq_nil_iff.1 e4) hne
      | cons d u =>
        rw [e4, e] at h3
        simp at h3
        exact ⟨d, u, rfl, by rw [← h3.1]; exact hc⟩
    obtain ⟨d, t, e5, hd⟩ := hk
    rw [e5]
    generalize s.takeWhile bl = a at *
    clear h1 hs
    induction a with
    | nil =>
      show skip (d :: t) = d :: t
      unfold skip
      rw [List.dropWhile_cons_of_neg (by rw [hd]; simp)]
    | cons x a ih =>
      have hx := hb x (by simp)
      unfold skip at ih ⊢
      rw [List.cons_append, List.dropWhile_cons_of_pos hx]
      exact ih (fun y hy => hb y (by simp [hy]))
theorem trimS_eq (s : L) : Lib.trimS s [32, 9] = trim s := by
  unfold Lib.trimS Lib.trimLeftS Lib.trimRightS
  rw [bl_eq, ← trim_comm]
  rfl
theorem trimF (s : L) (hs : s.length ≤ 1000000000000) : strings_Trim.f (mk s) (⟨#[32, 9]⟩ : ByteArray) = some (mk (trim s)) := by
  unfold strings_Trim.f
  rw [if_pos ⟨by rw [mk_size]; omega, by decide, by decide⟩, mk_data]
  have e : ((⟨#[32, 9]⟩ : ByteArray).data.toList) = [32, 9] := rfl
  rw [e, trimS_eq]
  rfl
theorem skip_len (s : L) : (skip s).length ≤ s.length := dw_len _ _
theorem trim_len (s : L) : (trim s).length ≤ s.length := by
  unfold trim
  have h1 := skip_len (skip s).reverse
  have h2 := skip_len s
  rw [List.length_reverse] at h1 ⊢
  omega
theorem lowI_b (c : UInt8) : UInt8.ofNat (lowI c.toNat).toNat = lowB c := by
  have h := c.toNat_lt
  unfold lowI lowB
  by_cases hc : 65 ≤ c.toNat ∧ c.toNat ≤ 90
  · rw [if_pos hc, if_pos (by omega)]
    congr 1
  · rw [if_neg hc, if_neg (by omega)]
    simp
theorem range_map (s : L) (f : UInt8 → UInt8) (g : Nat → Int) (h : ∀ (j : Nat) (hj : j < s.length), UInt8.ofNat (g j).toNat = f s[j]) : ((List.range s.length).map g).map (fun x => UInt8.ofNat x.toNat) = s.map f := by
  apply List.ext_getElem
  · simp
  · intro j h1 h2
    simp at h1 h2 ⊢
    exact h j h2
theorem lowF (s : L) (hs : s.length ≤ 1000000000000) : media_Small.f (mk s) = some (mk (low s)) := by
  unfold media_Small.f
  rw [if_pos (by rw [mk_size]; omega)]
  congr 1
  unfold strOfNums smallAt low
  apply ba_ext
  rw [mk_data, mk_size]
  simp only [List.toList_toArray]
  refine range_map s lowB _ (fun j hj => ?_)
  obtain ⟨b, e1, e2⟩ := mk_bt s j hj
  have e3 : s[j] = b := by
    have := List.drop_eq_getElem_cons hj
    rw [e1] at this
    exact (List.cons.inj this).1.symm
  rw [if_pos hj, e2, e3, lowI_b]
theorem low_len (s : L) : (low s).length = s.length := by simp [low]
theorem badI_b (c : UInt8) : badI (c.toNat : Int) = ctl c := by
  unfold badI ctl
  have h9 : ((c.toNat : Int) == 9) = (c == 9) := by
    rw [Bool.eq_iff_iff, beq_iff_eq, beq_iff_eq, show (9 : Int) = ((9 : Nat) : Int) from rfl, u8i c 9 (by omega)]
    rfl
  have h127 : ((c.toNat : Int) == 127) = (c == 127) := by
    rw [Bool.eq_iff_iff, beq_iff_eq, beq_iff_eq, show (127 : Int) = ((127 : Nat) : Int) from rfl, u8i c 127 (by omega)]
    rfl
  have h32 : decide ((c.toNat : Int) < 32) = decide (c.toNat < 32) := by
    rw [Bool.eq_iff_iff, decide_eq_true_eq, decide_eq_true_eq]
    omega
  rw [h9, h127, h32]
theorem any_ctl (s : L) : (List.range (mk s).size).any (fun j => badI (bt (mk s) j)) = !s.all (fun c => !ctl c) := by
  rw [mk_size, Bool.eq_iff_iff, List.any_eq_true, Bool.not_eq_true', List.all_eq_false]
  constructor
  · rintro ⟨j, hj, h⟩
    have hj := List.mem_range.1 hj
    obtain ⟨b, e1, e2⟩ := mk_bt s j hj
    rw [e2, badI_b] at h
    exact ⟨b, List.mem_of_mem_drop (by rw [e1]; simp), by simp [h]⟩
  · rintro ⟨b, hb, h⟩
    obtain ⟨j, hj, rfl⟩ := List.getElem_of_mem hb
    obtain ⟨b, e1, e2⟩ := mk_bt s j hj
    have e3 : s[j] = b := by
      have := List.drop_eq_getElem_cons hj
      rw [e1] at this
      exact (List.cons.inj this).1.symm
    refine ⟨j, List.mem_range.2 hj, ?_⟩
    rw [e2, badI_b, ← e3]
    simpa using h
theorem fvalF (s : L) (hs : s.length ≤ 1000000000000) : field_value.f (mk s) = some (fval s) := by
  unfold field_value.f
  rw [if_pos (by rw [mk_size]; omega), any_ctl]
  unfold fval trimB
  congr 1
  rw [mk_data, trimS_eq]
  have e : (⟨(trim s).toArray⟩ : ByteArray) = mk (trim s) := rfl
  rw [e, tl_mk, tl_mk]
  cases s.all (fun c => !ctl c) with
  | false => simp
  | true => 
    simp
    rw [Bool.eq_iff_iff]
    simp
theorem cut_l (s sep : L) : strings_Cut.f (mk s) (mk sep) = if s.length < 4294967281 then some (mk (Lib.cut s sep).1, mk (Lib.cut s sep).2.1, (Lib.cut s sep).2.2) else none := by
  unfold strings_Cut.f cutF
  rw [mk_size, mk_data, mk_data]
  rfl
theorem index1_eq (c : UInt8) (r : L) : Lib.index (c :: r) [c] = 0 := by simp [Lib.index, List.isPrefixOf]
theorem index1_other (c x : UInt8) (r : L) (h : x ≠ c) : Lib.index (x :: r) [c] = if Lib.index r [c] == -1 then -1 else Lib.index r [c] + 1 := by
  have h' : (c == x) = false := by simpa using fun e : c = x => h e.symm
  simp [Lib.index, List.isPrefixOf, h']
theorem index1 (c : UInt8) : ∀ s : L, (c ∉ s ∧ Lib.index s [c] = -1) ∨ (∃ a b, s = a ++ c :: b ∧ c ∉ a ∧ Lib.index s [c] = a.length)
  | [] => .inl ⟨by simp, by simp [Lib.index]⟩
  | x :: r => by
    by_cases h : x = c
    · subst h
      exact .inr ⟨[], r, rfl, by simp, by rw [index1_eq]; rfl⟩
    · rw [index1_other c x r h]
      rcases index1 c r with ⟨e1, e2⟩ | ⟨a, b, e1, e2, e3⟩
      · rw [e2]
        exact .inl ⟨by simp [e1]; exact fun e => h e.symm, rfl⟩
      · rw [e3]
        have hb : ((a.length : Int) == -1) = false := by simp
        rw [hb, if_neg (by decide)]
        exact .inr ⟨x :: a, b, by simp [e1], by simp [e2]; exact fun e => h e.symm, by simp⟩
theorem cut1_none {c : UInt8} {s : L} (h : c ∉ s) : Lib.cut s [c] = (s, [], false) := by
  rcases index1 c s with ⟨e1, e2⟩ | ⟨a, b, e1, e2, e3⟩
  · unfold Lib.cut; rw [e2, if_neg (by omega)]
  · exact absurd (by rw [e1]; simp) h
theorem cut1_some {c : UInt8} (a b : L) (h : c ∉ a) : Lib.cut (a ++ c :: b) [c] = (a, b, true) := by
  rcases index1 c (a ++ c :: b) with ⟨e1, e2⟩ | ⟨a', b', e1, e2, e3⟩
  · exact absurd (by simp) e1
  · have hl : a = a' ∧ b = b' := by
      clear e3
      induction a generalizing a' with
      | nil =>
        cases a' with
        | nil => simp at e1; exact ⟨rfl, e1⟩
        | cons x a' => simp at e1; exact absurd (by simp [e1.1]) e2
      | cons y a ih =>
        cases a' with
        | nil => simp at e1; exact absurd (by simp [e1.1]) h
        | cons x a' =>
          simp at e1
          obtain ⟨rfl, e1⟩ := e1
          obtain ⟨h1, h2⟩ := ih (fun e => h (by simp [e])) a' e1 (fun e => e2 (by simp [e]))
          exact ⟨by rw [h1], h2⟩
    obtain ⟨rfl, rfl⟩ := hl
    unfold Lib.cut
    rw [e3, if_pos (by omega)]
    simp
theorem tok58 : tokB 58 = false := by decide
theorem tok_app {a b : L} {c : UInt8} (ha : ∀ x ∈ a, tokB x = true) (hc : tokB c = false) : tok (a ++ c :: b) = (a, c :: b) := by
  unfold tok
  induction a with
  | nil =>
    have hc' : ¬ tokB c = true := by rw [hc]; simp
    simp only [List.nil_append]
    rw [List.takeWhile_cons_of_neg hc', List.dropWhile_cons_of_neg hc']
  | cons x a ih =>
    have hx := ha x (by simp)
    have := ih (fun y hy => ha y (by simp [hy]))
    rw [List.cons_append, List.takeWhile_cons_of_pos hx, List.dropWhile_cons_of_pos hx]
    simp only [Prod.mk.injEq] at this
    rw [this.1, this.2]
theorem tok_all {a : L} (ha : ∀ x ∈ a, tokB x = true) : tok a = (a, []) := by
  unfold tok
  induction a with
  | nil => rfl
  | cons x a ih =>
    have hx := ha x (by simp)
    have := ih (fun y hy => ha y (by simp [hy]))
    rw [List.takeWhile_cons_of_pos hx, List.dropWhile_cons_of_pos hx]
    simp only [Prod.mk.injEq] at this
    rw [this.1, this.2]
theorem tok_parts (s : L) : s = (tok s).1 ++ (tok s).2 ∧ (∀ x ∈ (tok s).1, tokB x = true) ∧ (∀ c r, (tok s).2 = c :: r → tokB c = false) := by
  refine ⟨(List.takeWhile_append_dropWhile).symm, fun x hx => mem_tw hx, fun c r h => ?_⟩
  · unfold tok at h
    simp only at h
    induction s with
    | nil => simp at h
    | cons x s ih =>
      by_cases hx : tokB x = true
      · rw [List.dropWhile_cons_of_pos hx] at h
        exact ih h
      · rw [List.dropWhile_cons_of_neg hx] at h
        obtain ⟨rfl, rfl⟩ := List.cons.inj h
        simpa using hx
theorem isTok_iff (s : L) : isTok s = true ↔ s ≠ [] ∧ ∀ x ∈ s, tokB x = true := by
  obtain ⟨h1, h2, h3⟩ := tok_parts s
  unfold isTok
  simp only [Bool.and_eq_true, decide_eq_true_eq]
  constructor
  · rintro ⟨a, b⟩
    rw [b, List.append_nil] at h1
    exact ⟨by rw [h1]; exact a, by rw [h1]; exact h2⟩
  · rintro ⟨a, b⟩
    rw [tok_all b]
    exact ⟨a, rfl⟩
/-- What the program makes of a line. -/
def pairP (l : L) : L × L × Bool := (low (Lib.cut l [58]).1, trim (Lib.cut l [58]).2.1, (Lib.cut l [58]).2.2 && isTok (Lib.cut l [58]).1 && fval (trim (Lib.cut l [58]).2.1))
theorem pairP_eq (l : L) : pairOf l = if (pairP l).2.2 = true then some ((pairP l).1, (pairP l).2.1) else none := by
  obtain ⟨h1, h2, h3⟩ := tok_parts l
  unfold pairP pairOf
  rcases index1 58 l with ⟨e1, _⟩ | ⟨a, b, e1, e2, _⟩
  · rw [cut1_none e1]
    simp only [Bool.false_and]
    refine Eq.trans ?_ (if_neg (by decide)).symm
    by_cases q1 : (tok l).1 = []
    · rw [if_pos q1]
    · rw [if_neg q1, if_pos]
      intro q2
      apply e1
      rw [h1]
      cases e : (tok l).2 with
      | nil => rw [e] at q2; simp at q2
      | cons c r => rw [e] at q2; simp at q2; subst q2; simp
  · rw [e1, cut1_some a b e2]
    simp only [Bool.true_and]
    by_cases ha : ∀ x ∈ a, tokB x = true
    · rw [tok_app ha tok58]
      simp only [List.head?_cons, List.tail_cons]
      by_cases q1 : a = []
      · rw [if_pos q1, if_neg]
        simp [q1, isTok, tok]
      · have hi : isTok a = true := (isTok_iff a).2 ⟨q1, ha⟩
        rw [if_neg q1, hi, Bool.true_and]
        simp <;> rfl
    · have hi : isTok a = false := by
        rw [Bool.eq_false_iff]
        exact fun h => ha ((isTok_iff a).1 h).2
      rw [hi, Bool.false_and]
      refine Eq.trans ?_ (if_neg (by decide)).symm
      rw [← e1]
      by_cases q1 : (tok l).1 = []
      · rw [if_pos q1]
      · rw [if_neg q1, if_pos]
        intro q2
        apply ha
        -- the token would end at the first 58
        cases e : (tok l).2 with
        | nil => rw [e] at q2; simp at q2
        | cons c r =>
          rw [e] at q2
          simp at q2
          subst q2
          rw [e, e1] at h1
          have hn : (58 : UInt8) ∉ (tok (a ++ 58 :: b)).1 := fun h => by
            have := h2 58 (by rw [e1]; exact h)
            rw [tok58] at this
            simp at this
          have c1 := cut1_some a b e2
          have c2 := cut1_some (tok (a ++ 58 :: b)).1 r hn
          rw [← h1, c1] at c2
          have c3 := (Prod.mk.inj c2).1
          intro x hx
          rw [c3] at hx
          exact h2 x (by rw [e1]; exact hx)
theorem pairF (l : L) (k : Nat) (hl : l.length < 4294967281) (hk : l.length < k) : field_pair.f k (mk l) = some (mk (pairP l).1, mk (pairP l).2.1, (pairP l).2.2) := by
  have hc : (Lib.cut l [58]).1.length ≤ l.length ∧ (Lib.cut l [58]).2.1.length ≤ l.length := by
    rcases index1 58 l with ⟨e1, _⟩ | ⟨a, b, e1, e2, _⟩
    · rw [cut1_none e1]; simp
    · rw [e1, cut1_some a b e2]; simp; omega
  unfold field_pair.f pairP
  rw [show (⟨#[58]⟩ : ByteArray) = mk [58] from rfl, cut_l, if_pos hl]
  generalize Lib.cut l [58] = q at *
  obtain ⟨x, y, z⟩ := q
  simp only [Option.bind_some] at hc ⊢
  have ht := trim_len y
  rw [trimF y (by omega)]
  simp only [Option.bind_some]
  rw [lowF x (by omega)]
  simp only [Option.bind_some]
  cases z with
  | false => simp
  | true =>
    rw [if_pos rfl, isTokF x k (by omega) (by omega)]
    simp only [Option.bind_some, Bool.true_and]
    cases isTok x with
    | false => simp
    | true =>
      rw [if_pos rfl, fvalF _ (by omega)]
      simp
end Go.Proofs.YtaopopnlnohnpaaDoor.Sp
/- Ofld -/
namespace Go.Proofs.YtaopopnlnohnpaaDoor.O
open Go.RowKit Go.Shelf Go.Proofs.YtaopopnlnohnpaaDoorW.PrintWords Go.Proofs.YtaopopnlnohnpaaDoorW.PrintLast Go.Proofs.YtaopopnlnohnpaaDoorW.PrintMore Go.Proofs.YtaopopnlnohnpaaDoor.P Go.Proofs.YtaopopnlnohnpaaDoor.Sp
attribute [local go_sem] Oper.semAt_some
set_option linter.unusedVariables false
set_option linter.unusedSimpArgs false
def flatV (l : List (Sp.L × Sp.L)) : List Value := l.flatMap fun p => [.string (Sp.mk p.1), .string (Sp.mk p.2)]
def fieldsB (s : ByteArray) : List S35 × ByteArray × Int := (pairsB (Sp.fields s.data.toList).1, Sp.mk (Sp.fields s.data.toList).2.1, (Sp.fields s.data.toList).2.2)
def field_Parse.f (a0 : ByteArray) : Option (List S35 × ByteArray × Int) := if a0.size < 4294967281 then some (fieldsB a0) else none
theorem flat_reps (w : World) (base : Nat) (ok : Nat → Prop) : ∀ l, Reps (k35.M w base ok) 2 (pairsB l) (flatV l)
  | [] => Reps.none _ _
  | p :: l => by
    have h1 : Reps (k35.M w base ok) 2 ([] ++ [⟨Sp.mk p.1, Sp.mk p.2⟩]) ([] ++ [.string (Sp.mk p.1), .string (Sp.mk p.2)]) := (Reps.none _ _).snoc (k35_mkM w base ok _) rfl
    exact Kd.reps_append h1 (flat_reps w base ok l)
theorem flat_row {w : World} {base : Nat} {v : Value} {l : List (Sp.L × Sp.L)} (h : w.ownsRow base 35 2 v l.length (flatV l)) : Kd.R k35 35 w base (fun _ => True) v (pairsB l) :=
  ⟨fun _ _ => trivial, flatV l, by rw [show (pairsB l).length = l.length from by simp [pairsB]]; exact h, flat_reps _ _ _ l⟩
theorem lines_in (n : Nat) (s : ByteArray) (w : World) : CallsIn Fence.wide n Tryd.prog 32 #[.string s] w fun e w' => e = .returned (.func (.func 44) #[] #[.pointer (some ⟨w.heap.size, 0, none⟩)]) ∧ w' = w.alloc (.cells #[.string s] 9) := by
  refine callsIn_of_wp Tryd.func32 rfl trivial ?_ rfl
  simp only [Tryd.ntmps32, List.size_toArray, List.length_cons, List.length_nil, Nat.reduceAdd, Nat.reduceSub, Array.replicate_succ, Array.replicate_zero, List.push_toArray, List.append_toArray, List.nil_append, List.cons_append]
  gi_wp2
  go_ret
  exact ⟨rfl, rfl⟩
/-- What lies between two rounds. N: the whole text's length; R: what the parser comes to. -/
structure Between (w : World) (a0 : ByteArray) (R : List (Sp.L × Sp.L) × Sp.L × Int) (cur : ByteArray) (W : World) : Prop where
  row : ∃ f acc v, Sp.fparse a0.size f cur.data.toList acc = R ∧ cur.size < f ∧ acc.length + cur.size ≤ a0.size ∧ Boxed W (w.heap.size + 1) 22 v ∧ W.ownsRow w.heap.size 35 2 v acc.length (flatV acc)
  s : Boxed W w.heap.size 9 (.string a0)
  rest : Boxed W (w.heap.size + 2) 9 (.string ⟨#[]⟩)
  e : Boxed W (w.heap.size + 3) 29 (.int .i64 0)
  it : ∃ u, Boxed W (w.heap.size + 4) 9 u
  bel : Below w.heap.size w W
/-- How the rounds were left. -/
structure Left (w : World) (a0 : ByteArray) (R : List (Sp.L × Sp.L) × Sp.L × Int) (c : Code) (W : World) : Prop where
  how : (c = .exit 0 ∧ R = ([], [], if a0.size > 8000 then 2 else 180) ∧ (∃ v, Boxed W (w.heap.size + 1) 22 v) ∧ Boxed W (w.heap.size + 2) 9 (.string ⟨#[]⟩) ∧ Boxed W (w.heap.size + 3) 29 (.int .i64 0)) ∨
    (c = .ret ∧ (∃ v, Boxed W (w.heap.size + 1) 22 v ∧ W.ownsRow w.heap.size 35 2 v R.1.length (flatV R.1)) ∧ Boxed W (w.heap.size + 2) 9 (.string (Sp.mk R.2.1)) ∧ Boxed W (w.heap.size + 3) 29 (.int .i64 R.2.2))
  s : Boxed W w.heap.size 9 (.string a0)
  bel : Below w.heap.size w W
theorem Between.own (w : World) (a0 : ByteArray) (R) : OwnFrom (w.heap.size + 5) (Between w a0 R) := by
  intro cur W W' row h hg hr
  have kb : ∀ {B t v}, Boxed W B t v → B < w.heap.size + 5 → Boxed W' B t v := fun hb hlt => hb.kept hg (fun e => by have := (hr _ e.symm).1; omega)
  obtain ⟨⟨f, acc, v, h1, h2, h3, h4, h5⟩, hs, hrest, he, ⟨u, hit⟩, hbel⟩ := h
  refine ⟨⟨f, acc, v, h1, h2, h3, kb h4 zb26, ?_⟩, kb hs zb26, kb hrest zb26, kb he zb26, ⟨u, kb hit zb26⟩, hbel.grown hg hbel.size (fun k e => by have := (hr k e).1; omega)⟩
  refine own_move h5 (fun k hk => hg.block k (own_lt h5 k hk) (fun e => ?_))
  obtain ⟨o, ho, hc⟩ := (hr k e.symm).2
  obtain ⟨cells, hcell⟩ := own_typed h5 k hk
  rw [hcell] at ho
  injection ho with ho
  subst ho
  simp [Obj.isCells] at hc
theorem Left.own (w : World) (a0 : ByteArray) (R) : OwnFrom (w.heap.size + 5) (Left w a0 R) := by
  intro c W W' row h hg hr
  have kb : ∀ {B t v}, Boxed W B t v → B < w.heap.size + 5 → Boxed W' B t v := fun hb hlt => hb.kept hg (fun e => by have := (hr _ e.symm).1; omega)
  obtain ⟨hh, hs, hbel⟩ := h
  refine ⟨?_, kb hs zb26, hbel.grown hg hbel.size (fun k e => by have := (hr k e).1; omega)⟩
  rcases hh with ⟨e1, e2, ⟨v, hv⟩, h2, h3⟩ | ⟨e1, ⟨v, hv, h5⟩, h2, h3⟩
  · exact .inl ⟨e1, e2, ⟨v, kb hv zb26⟩, kb h2 zb26, kb h3 zb26⟩
  · refine .inr ⟨e1, ⟨v, kb hv zb26, ?_⟩, kb h2 zb26, kb h3 zb26⟩
    refine own_move h5 (fun k hk => hg.block k (own_lt h5 k hk) (fun e => ?_))
    obtain ⟨o, ho, hc⟩ := (hr k e.symm).2
    obtain ⟨cells, hcell⟩ := own_typed h5 k hk
    rw [hcell] at ho
    injection ho with ho
    subst ho
    simp [Obj.isCells] at hc
theorem Between.stays (w : World) (a0 : ByteArray) (R) (cur : ByteArray) : Stays (w.heap.size + 4) (Between w a0 R cur) := by
  constructor
  · intro W x h
    obtain ⟨⟨f, acc, v, h1, h2, h3, h4, h5⟩, hs, hrest, he, ⟨u, hit⟩, hbel⟩ := h
    refine ⟨⟨f, acc, v, h1, h2, h3, h4.other zb26 _, ?_⟩, hs.other zb26 _, hrest.other zb26 _, he.other zb26 _, ⟨x, hit.set x⟩, hbel.setCell (p := ⟨w.heap.size + 4, 0, none⟩) (by show w.heap.size ≤ w.heap.size + 4; omega) x⟩
    refine own_move h5 (fun k hk => Below.heap_setCell W _ x k (fun e => ?_))
    obtain ⟨cells, hcell⟩ := own_typed h5 k hk
    have hB : W.heap[w.heap.size + 4]? = some (.cells #[u] 9 (0, 0)) := hit
    rw [e, hB] at hcell
    injection hcell with hcell
    injection hcell with _ h9 _
    revert h9
    decide
  · intro W k h
    obtain ⟨hrow, hs, hrest, he, hit, hbel⟩ := h
    exact ⟨hrow, hs, hrest, he, hit, ⟨hbel.1, hbel.2, hbel.3, hbel.4, hbel.5⟩⟩
theorem line_of {cur x y : ByteArray} (h : lineB cur = some (x, y)) : Sp.line cur.data.toList = some (x.data.toList, y.data.toList) := by
  unfold lineB at h
  cases e : Sp.line cur.data.toList with
  | none => rw [e] at h; simp at h
  | some p =>
    rw [e] at h
    simp only [Option.map_some, Option.some.injEq, Prod.mk.injEq] at h
    obtain ⟨rfl, rfl⟩ := h
    rfl
theorem fparse_step (N f : Nat) (cur x y : ByteArray) (acc : List (Sp.L × Sp.L)) (h : lineB cur = some (x, y)) : Sp.fparse N (f + 1) cur.data.toList acc =
    if N - y.size > 8000 then ([], [], if N > 8000 then 2 else 180) else if x.data.toList = [] then (acc, y.data.toList, 0) else if (Sp.pairP x.data.toList).2.2 = true then Sp.fparse N f y.data.toList (acc ++ [((Sp.pairP x.data.toList).1, (Sp.pairP x.data.toList).2.1)]) else ([], [], 180) := by
  rw [Sp.fparse, line_of h]
  simp only
  rw [← Lib.size_eq, Sp.pairP_eq]
  by_cases h1 : N - y.size > 8000
  · rw [if_pos h1, if_pos h1]
  · rw [if_neg h1, if_neg h1]
    by_cases h2 : x.data.toList = []
    · rw [if_pos h2, if_pos h2]
    · rw [if_neg h2, if_neg h2]
      cases h3 : (Sp.pairP x.data.toList).2.2 <;> simp
theorem fparse_stop (N f : Nat) (cur : ByteArray) (acc : List (Sp.L × Sp.L)) (h : lineB cur = none) : Sp.fparse N (f + 1) cur.data.toList acc = ([], [], if N > 8000 then 2 else 180) := by
  have e : Sp.line cur.data.toList = none := by
    unfold lineB at h
    cases e : Sp.line cur.data.toList with
    | none => rfl
    | some p => rw [e] at h; simp at h
  rw [Sp.fparse, e]
theorem bx_below {W W1 : World} {B : Nat} {t : TypeId} {v : Value} (h : Boxed W B t v) (hb : Below W.heap.size W W1) : Boxed W1 B t v := (hb.block B h.lt).trans h
theorem bx_set {W : World} {B : Nat} {t : TypeId} {v : Value} (h : Boxed W B t v) (p : Addr) (hne : B ≠ p.block) (x : Value) : Boxed (W.setCell p x) B t v := (Below.heap_setCell W p x B hne).trans h
theorem keeps_below {W W1 : World} (hb : Below W.heap.size W W1) (N : Nat) : KeepsFrom N W W1 := ⟨hb.size, fun k o _ hk _ => (hb.block k (Array.getElem?_eq_some_iff.1 hk).1).trans hk⟩
theorem row_below {W W1 : World} {base k : Nat} {e : TypeId} {v : Value} {xs : List Value} (h : W.ownsRow base e 2 v k xs) (hb : Below W.heap.size W W1) : W1.ownsRow base e 2 v k xs := own_move h (fun j hj => hb.block j (own_lt h j hj))
theorem cells_two (w : World) (o : Obj) (x y : Value) : ∀ (j : Nat) u, [x, y][j]? = some u → ((w.alloc o).alloc (.cells #[x, y] 35)).cell? ((⟨w.heap.size + 1, 0, none⟩ : Addr).add j) = some u := by
  intro j u hj
  have e : w.heap.size + 1 = (w.alloc o).heap.size := (World.size_alloc _ _).symm
  match j, hj with
  | 0, hj =>
    simp at hj
    subst hj
    rw [e]
    simp [Addr.add]
  | 1, hj =>
    simp at hj
    subst hj
    rw [e]
    simp [Addr.add]
theorem own_slice {W : World} {base k : Nat} {e : TypeId} {v : Value} {xs : List Value} (h : W.ownsRow base e 2 v k xs) : ∃ A c, v = .slice A k c := by
  rcases h.2 with ⟨rfl, rfl⟩ | ⟨g, cap, cur, rfl, _⟩
  · exact ⟨none, 0, rfl⟩
  · exact ⟨_, cap, rfl⟩
theorem row_far {W : World} {base k B : Nat} {t : TypeId} {u x v : Value} {xs : List Value} (h : W.ownsRow base 35 2 v k xs) (hb : Boxed W B t u) (ht : t ≠ 35) : (W.setCell ⟨B, 0, none⟩ x).ownsRow base 35 2 v k xs := by
  refine own_move h (fun j hj => Below.heap_setCell W _ x j (fun e => ?_))
  obtain ⟨cells, hcell⟩ := own_typed h j hj
  have hB : W.heap[B]? = some (.cells #[u] t (0, 0)) := hb
  rw [e, hB] at hcell
  injection hcell with hcell
  injection hcell with _ h9 _
  exact ht h9
theorem row_set3 {w W : World} {k : Nat} {v u1 u2 u3 x1 x2 x3 : Value} {xs : List Value} (h : W.ownsRow w.heap.size 35 2 v k xs) (h1 : Boxed W (w.heap.size + 1) 22 u1) (h2 : Boxed W (w.heap.size + 2) 9 u2) (h3 : Boxed W (w.heap.size + 3) 29 u3) :
    (((W.setCell ⟨w.heap.size + 1, 0, none⟩ x1).setCell ⟨w.heap.size + 2, 0, none⟩ x2).setCell ⟨w.heap.size + 3, 0, none⟩ x3).ownsRow w.heap.size 35 2 v k xs :=
  row_far (row_far (row_far h h1 zb32) (h2.other zb26 _) zb32) ((h3.other zb26 _).other zb26 _) zb32
theorem parse_leaves {tmps : Array Value} {w W : World} {D : Nat} {v : Value} {a0 r2 : ByteArray} {r3 : Int} {l : List (Sp.L × Sp.L)} {o : Option (List Deferred)} {F : List (Sp.L × Sp.L) × Sp.L × Int}
    (t2 : tmps[2]? = some (.pointer (some ⟨w.heap.size + 1, 0, none⟩))) (t3 : tmps[3]? = some (.pointer (some ⟨w.heap.size + 2, 0, none⟩))) (t4 : tmps[4]? = some (.pointer (some ⟨w.heap.size + 3, 0, none⟩)))
    (hK : W.heap[D]? = some (.deferred o)) (hv : Boxed W (w.heap.size + 1) 22 v) (hr : Boxed W (w.heap.size + 2) 9 (.string r2)) (he : Boxed W (w.heap.size + 3) 29 (.int .i64 r3))
    (hrow : W.ownsRow w.heap.size 35 2 v l.length (flatV l)) (hbel : Below w.heap.size w W) (hD : w.heap.size + 5 ≤ D) (hF : Sp.fields a0.data.toList = F) (hF2 : (l, r2, r3) = (F.1, Sp.mk F.2.1, F.2.2)) :
    LeavesInM Fence.wide 10 Tryd.prog Tryd.f20 tmps (fun e w' => ∃ v0_ : Value, e = .returned (.tuple #[v0_, .string (fieldsB a0).2.1, .int .i64 (fieldsB a0).2.2]) ∧ Kd.R k35 35 w' w.heap.size (fun _ => True) v0_ (fieldsB a0).1 ∧ Below w.heap.size w w') [] .returning (W.putObj D (.deferred none)) := by
  have g := grownBy_putObj' W D (.deferred none)
  have kb : ∀ {B t u}, Boxed W B t u → B < w.heap.size + 5 → Boxed (W.putObj D (.deferred none)) B t u := fun hb hlt => hb.kept g (fun e => by have := Option.some.inj e; omega)
  have c1 := (kb hv zb26).cell
  have c2 := (kb hr zb26).cell
  have c3 := (kb he zb26).cell
  have e : fieldsB a0 = (pairsB l, r2, r3) := by
    unfold fieldsB
    rw [hF]
    obtain ⟨rfl, h2⟩ := Prod.mk.inj hF2
    obtain ⟨rfl, rfl⟩ := Prod.mk.inj h2
    rfl
  rw [e]
  refine ⟨.tuple #[v, .string r2, .int .i64 r3], ?_, v, rfl, flat_row ?_, ?_⟩
  · simp [results, Tryd.f20, go_sem, t2, t3, t4, c1, c2, c3]
  · refine own_move hrow (fun k hk => g.block k (own_lt hrow k hk) (fun e2 => ?_))
    obtain ⟨cells, hcell⟩ := own_typed hrow k hk
    obtain rfl := Option.some.inj e2
    rw [hK] at hcell
    cases hcell
  · exact hbel.grown g hbel.size (fun k ek => by have := Option.some.inj ek; omega)
set_option maxRecDepth 100000 in
set_option maxHeartbeats 4000000 in
theorem parse_in (a0 : ByteArray) (w : World) (hG : Glob w) (hs : a0.size < 4294967281) :
    Calls Tryd.prog 20 #[.string a0] w fun e w' => ∃ v0_ : Value, e = .returned (.tuple #[v0_, .string (fieldsB a0).2.1, .int .i64 (fieldsB a0).2.2]) ∧ Kd.R k35 35 w' w.heap.size (fun _ => True) v0_ (fieldsB a0).1 ∧ Below w.heap.size w w' := by
  obtain ⟨i0, hi, hz0, hz1', hz2⟩ := info_parts info35
  refine (callsIn_wide (n := 10)).1 ?_
  have hfl : Fence.wide.fn 32 := trivial
  have hn10 : 1 ≤ 10 := by omega
  refine callsIn_of_wp_marks Tryd.func20 rfl trivial ?_ rfl
  simp only [Tryd.ntmps20, List.size_toArray, List.length_cons, List.length_nil, Nat.reduceAdd, Nat.reduceSub, Array.replicate_succ, Array.replicate_zero, List.push_toArray, List.append_toArray, List.nil_append, List.cons_append]
  gi_wp2_with (gi_at_call 32; refine (lines_in _ _ _).mono ?_; rintro e w' ⟨rfl, rfl⟩)
  simp only [Nat.add_assoc, Nat.reduceAdd]
  obtain ⟨R, hR⟩ : ∃ R, R = Sp.fields a0.data.toList := ⟨_, rfl⟩
  have hbox0 : Boxed ((((((w.alloc (Obj.cells #[Value.string a0] 9)).alloc (Obj.cells #[Value.slice none 0 0] 22)).alloc (Obj.cells #[Value.string ⟨#[]⟩] 9)).alloc (Obj.cells #[Value.int IntKind.i64 0] 29)).alloc (Obj.cells #[Value.string a0] 9))) (w.heap.size + 4) 9 (.string a0) := by
    have := Boxed.new ((((w.alloc (Obj.cells #[Value.string a0] 9)).alloc (Obj.cells #[Value.slice none 0 0] 22)).alloc (Obj.cells #[Value.string ⟨#[]⟩] 9)).alloc (Obj.cells #[Value.int IntKind.i64 0] 29)) 9 (.string a0)
    simpa only [World.size_alloc, Nat.add_assoc, Nat.reduceAdd] using this
  have hbt : Between w a0 R a0 ((((((w.alloc (Obj.cells #[Value.string a0] 9)).alloc (Obj.cells #[Value.slice none 0 0] 22)).alloc (Obj.cells #[Value.string ⟨#[]⟩] 9)).alloc (Obj.cells #[Value.int IntKind.i64 0] 29)).alloc (Obj.cells #[Value.string a0] 9))) := by
    have p0 := Boxed.new w 9 (.string a0)
    have p1 := Boxed.new (w.alloc (Obj.cells #[Value.string a0] 9)) 22 (.slice none 0 0)
    have p2 := Boxed.new ((w.alloc (Obj.cells #[Value.string a0] 9)).alloc (Obj.cells #[Value.slice none 0 0] 22)) 9 (.string ⟨#[]⟩)
    have p3 := Boxed.new (((w.alloc (Obj.cells #[Value.string a0] 9)).alloc (Obj.cells #[Value.slice none 0 0] 22)).alloc (Obj.cells #[Value.string ⟨#[]⟩] 9)) 29 (.int .i64 0)
    simp only [World.size_alloc, Nat.add_assoc, Nat.reduceAdd] at p1 p2 p3
    refine ⟨⟨a0.data.toList.length + 1, [], _, ?_, ?_, ?_, ((p1.alloc _).alloc _).alloc _, World.ownsRow_nil _ _ _ _⟩, (((p0.alloc _).alloc _).alloc _).alloc _, (p2.alloc _).alloc _, p3.alloc _, ⟨_, hbox0⟩, ?_⟩
    · rw [hR, Lib.size_eq]; rfl
    · rw [Lib.size_eq]; omega
    · simp
    · exact ((((((Below.refl _ w).alloc (Nat.le_refl _) _).alloc (by simp) _).alloc (by simp; omega) _).alloc (by simp; omega) _).alloc (by simp; omega) _)
  have hsz5 : ((((((w.alloc (Obj.cells #[Value.string a0] 9)).alloc (Obj.cells #[Value.slice none 0 0] 22)).alloc (Obj.cells #[Value.string ⟨#[]⟩] 9)).alloc (Obj.cells #[Value.int IntKind.i64 0] 29)).alloc (Obj.cells #[Value.string a0] 9))).heap.size = w.heap.size + 5 := by simp only [World.size_alloc]
  generalize ((((((w.alloc (Obj.cells #[Value.string a0] 9)).alloc (Obj.cells #[Value.slice none 0 0] 22)).alloc (Obj.cells #[Value.string ⟨#[]⟩] 9)).alloc (Obj.cells #[Value.int IntKind.i64 0] 29)).alloc (Obj.cells #[Value.string a0] 9))) = W0 at *
  have hbt' := Lib.hid hbt
  have hbox' := Lib.hid hbox0
  have hsz' := Lib.hid hsz5
  have hR' := Lib.hid hR
  clear hbt hbox0 hR hsz5
  refine range_lines (F := Fence.wide) (n := 10) rfl zb26 (gf := 44) (lb := #[.pointer (some ⟨w.heap.size + 4, 0, none⟩)]) rfl trivial (enters_of Tryd.func44 zb11 rfl)
    (lines_stops 9 zb26 (w.heap.size + 4) a0 W0 hs (by rw [hsz'.out]; omega) hbox'.out) (by rw [hsz'.out]; omega) rfl
    (Between w a0 R) (Left w a0 R) (by rw [hsz'.out]; exact Between.own w a0 R) (by rw [hsz'.out]; exact Left.own w a0 R) (Between.stays w a0 R) (fun c W h => hG.below h.bel) hbt'.out
    (fun x y => { tmps := #[Value.string a0, Value.pointer (some { block := w.heap.size, off := 0 }), Value.pointer (some { block := w.heap.size + 1, off := 0 }), Value.pointer (some { block := w.heap.size + 2, off := 0 }), Value.pointer (some { block := w.heap.size + 3, off := 0 }), .string x, .string y, undef, undef, Value.string a0, Value.func (Fn.func 44) #[] #[Value.pointer (some { block := w.heap.size + 4, off := 0 })], .string x, .string y, undef, undef, undef, undef, undef, undef, undef, undef, undef, undef, undef, undef, undef, undef, undef, undef, undef, undef, undef, undef, undef, undef, undef, undef], defers := [] }) ?assign ?body ?done ?stop
  case assign =>
    intro l x y W K hK
    gi_wp2
    exact hK
  case body =>
    intro l cur x y W hb hline
    obtain ⟨⟨f, acc, v, hf, hcf, hlen, hv, hrow⟩, hsb, hrb, heb, hib, hbel⟩ := hb
    have hsz := lineB_size cur x y hline
    obtain ⟨f, rfl⟩ : ∃ f', f = f' + 1 := ⟨f - 1, by omega⟩
    obtain ⟨A, c, rfl⟩ := own_slice hrow
    have hstep := fparse_step a0.size f cur x y acc hline
    rw [hf] at hstep
    have hya : y.size ≤ a0.size := by omega
    have hya2 : (y.size : Int) ≤ (a0.size : Int) := by omega
    have hc0 := hsb.cell
    have hcl := hv.cell
    have hcr := hrb.cell
    have hce := heb.cell
    have hfl := hv.frozen
    have hfr := hrb.frozen
    have hfe := heb.frozen
    have hWk := Lib.hid (⟨hsb, hrb, heb, hib, hbel, hv, hrow⟩ : Boxed W w.heap.size 9 (.string a0) ∧ Boxed W (w.heap.size + 2) 9 (.string ⟨#[]⟩) ∧ Boxed W (w.heap.size + 3) 29 (.int .i64 0) ∧ (∃ u, Boxed W (w.heap.size + 4) 9 u) ∧ Below w.heap.size w W ∧ Boxed W (w.heap.size + 1) 22 (.slice A acc.length c) ∧ W.ownsRow w.heap.size 35 2 (.slice A acc.length c) acc.length (flatV acc))
    clear hsb hrb heb hib hbel hv hrow hf hbt' hbox'
    have hszH := Lib.hid (⟨hsz, hcf, hlen, hya⟩ : cur.size = x.size + y.size + 2 ∧ cur.size < f + 1 ∧ acc.length + cur.size ≤ a0.size ∧ y.size ≤ a0.size)
    clear hsz hcf hlen hline
    by_cases hhead : 8000 < (a0.size : Int) - (y.size : Int)
    · rw [if_pos zb26] at hstep
      have hst := Lib.hid hstep
      have hd := decide_eq_true hhead
      clear hstep hhead hya
      gi_wp2
      obtain ⟨hsb, hrb, heb, hib, hbel, hv, hrow⟩ := hWk.out
      exact ⟨KeepsFrom.refl _ _, ⟨.inl ⟨rfl, hst.out, ⟨_, hv⟩, hrb, heb⟩, hsb, hbel⟩⟩
    · rw [if_neg zb26] at hstep
      have hd := decide_eq_false hhead
      clear hhead hya
      by_cases hx0 : x.data.toList = []
      · rw [if_pos hx0] at hstep
        have hst := Lib.hid hstep
        obtain rfl : x = ⟨#[]⟩ := Sp.ba_ext hx0
        clear hstep hx0
        obtain ⟨hsb, hrb, heb, hib, hbel, hv, hrow⟩ := hWk.out
        gi_wp2
        have hv2 := (((hv.set (.slice A acc.length c)).other (B' := w.heap.size + 2) zb26 (.string y)).other (B' := w.heap.size + 3) zb26 (.int .i64 0))
        have hr2 := (((hrb.other (B' := w.heap.size + 1) zb26 (.slice A acc.length c)).set (.string y)).other (B' := w.heap.size + 3) zb26 (.int .i64 0))
        have he2 := (((heb.other (B' := w.heap.size + 1) zb26 (.slice A acc.length c)).other (B' := w.heap.size + 2) zb26 (.string y)).set (.int .i64 0))
        have hs2 := (((hsb.other (B' := w.heap.size + 1) zb26 (.slice A acc.length c)).other (B' := w.heap.size + 2) zb26 (.string y)).other (B' := w.heap.size + 3) zb26 (.int .i64 0))
        refine ⟨((((KeepsOthers.setCell _ _ _).trans (KeepsOthers.setCell _ _ _)).trans (KeepsOthers.setCell _ _ _)).from _), ⟨.inr ⟨rfl, ⟨_, hv2, ?_⟩, ?_, ?_⟩, hs2, ?_⟩⟩
        · rw [hst.out]
          exact row_set3 hrow hv hrb heb
        · rw [hst.out]
          show Boxed _ _ _ (.string (Sp.mk y.data.toList))
          rw [Sp.mk_self]
          exact hr2
        · rw [hst.out]
          exact he2
        · exact ((hbel.setCell (p := ⟨w.heap.size + 1, 0, none⟩) (Nat.le_add_right _ _) _).setCell (p := ⟨w.heap.size + 2, 0, none⟩) (Nat.le_add_right _ _) _).setCell (p := ⟨w.heap.size + 3, 0, none⟩) (Nat.le_add_right _ _) _
      · rw [if_neg hx0] at hstep
        have hne1 : ¬ x.toList = [] := by rw [Sp.tl]; exact hx0
        have hne2 : (x.toList == []) = false := by simpa using hne1
        have hxl : x.data.toList.length < 4294967281 := by rw [← Lib.size_eq]; have := hszH.out; omega
        have HF := Sp.pairF x.data.toList (x.data.toList.length + 1) hxl zb26
        rw [Sp.mk_self] at HF
        have HP0 := field_pair.calls _ x _ _ _ W (hG.below hWk.out.2.2.2.2.1) HF
        clear HF hxl hx0
        have hf31 : Fence.wide.fn 33 := trivial
        obtain ⟨pp, hpp⟩ : ∃ pp, pp = Sp.pairP x.data.toList := ⟨_, rfl⟩
        rw [← hpp] at hstep HP0
        clear hpp
        obtain ⟨q1, q2, q3⟩ := pp
        simp only at hstep HP0
        have HP := Lib.hid (CallsIn.inRound l (callsIn_wide.2 HP0) (n := 7))
        have hst := Lib.hid hstep
        clear hstep HP0
        obtain ⟨hsb, hrb, heb, hib, hbel, hv, hrow⟩ := hWk.out
        have hvH := Lib.hid hv
        have hrH := Lib.hid hrb
        have heH := Lib.hid heb
        clear hv hrb heb hcl hcr hce hfl hfr hfe
        cases q3 with
        | false =>
          gi_wp2_with (gi_at_call 33; refine HP.out.mono ?_; rintro e W1 ⟨rfl, hb1⟩; have hv1 := Lib.hid (bx_below hvH.out hb1); have hr1 := Lib.hid (bx_below hrH.out hb1); have he1 := Lib.hid (bx_below heH.out hb1); have hl1 := hv1.out.cell; have hl2 := hv1.out.frozen; have hl3 := hr1.out.cell; have hl4 := hr1.out.frozen; have hl5 := he1.out.cell; have hl6 := he1.out.frozen; have hz1 := hv1.out.lt; have hz2 := hr1.out.lt; have hz3 := he1.out.lt)
          have hR2 : R = ([], [], 180) := by simpa using hst.out
          have hlt := hbel.size
          have hrr := hrH.out
          have hee := heH.out
          have hvv := hvH.out
          have hss := bx_below hsb hb1
          have e1 := (((hv1.out.set (.slice none 0 0)).other (B' := w.heap.size + 2) zb26 (.string ⟨#[]⟩)).other (B' := w.heap.size + 3) zb26 (.int .i64 180)).alloc (Obj.cells #[Value.string (Sp.mk q1), Value.string (Sp.mk q2)] 35)
          have e2 := (((hr1.out.other (B' := w.heap.size + 1) zb26 (.slice none 0 0)).set (.string ⟨#[]⟩)).other (B' := w.heap.size + 3) zb26 (.int .i64 180)).alloc (Obj.cells #[Value.string (Sp.mk q1), Value.string (Sp.mk q2)] 35)
          have e3 := (((he1.out.other (B' := w.heap.size + 1) zb26 (.slice none 0 0)).other (B' := w.heap.size + 2) zb26 (.string ⟨#[]⟩)).set (.int .i64 180)).alloc (Obj.cells #[Value.string (Sp.mk q1), Value.string (Sp.mk q2)] 35)
          have e0 := (((hss.other (B' := w.heap.size + 1) zb26 (.slice none 0 0)).other (B' := w.heap.size + 2) zb26 (.string ⟨#[]⟩)).other (B' := w.heap.size + 3) zb26 (.int .i64 180)).alloc (Obj.cells #[Value.string (Sp.mk q1), Value.string (Sp.mk q2)] 35)
          refine ⟨((((keeps_below hb1 _).trans ((KeepsOthers.setCell _ _ _).from _)).trans ((KeepsOthers.setCell _ _ _).from _)).trans ((KeepsOthers.setCell _ _ _).from _)).trans ((KeepsOthers.alloc _ _).from _), ⟨.inr ⟨rfl, ⟨_, e1, ?_⟩, ?_, ?_⟩, e0, ?_⟩⟩
          · rw [hR2]
            exact World.ownsRow_nil _ _ _ _
          · rw [hR2]
            exact e2
          · rw [hR2]
            exact e3
          · refine ((((hbel.trans (hb1.mono hbel.size)).setCell (p := ⟨w.heap.size + 1, 0, none⟩) (Nat.le_add_right _ _) _).setCell (p := ⟨w.heap.size + 2, 0, none⟩) (Nat.le_add_right _ _) _).setCell (p := ⟨w.heap.size + 3, 0, none⟩) (Nat.le_add_right _ _) _).alloc ?_ _
            have := hb1.size
            simp only [World.setCell, Array.size_modify]
            omega
        | true =>
          have hlH := Lib.hid (show acc.length + 1 ≤ 4294967281 by have := hszH.out; omega)
          gi_wp2_with (first | (gi_at_call 33; refine HP.out.mono ?_; rintro e W1 ⟨rfl, hb1⟩; have hv1 := Lib.hid (bx_below hvH.out hb1); have hl1 := hv1.out.cell; have hl2 := hv1.out.frozen; have hz1 := hv1.out.lt; have hb1 := Lib.hid hb1) | (gi_at_builtin; refine wpListIn_append_own _ rfl _ _ 22 rfl w.heap.size 35 i0 _ 2 32 Tryd.underlying22 hi hz0 hz1' hz2 rfl zb32 _ _ _ rfl (((row_below hrow hb1.out).alloc _).alloc _) ⟨W1.heap.size + 1, 0, none⟩ 1 1 [.string (Sp.mk q1), .string (Sp.mk q2)] rfl rfl (cells_two _ _ _ _) (by simp [Value.oneCell']) (by have := hlH.out; unfold maxLen; omega) (by have := hlH.out; omega) (by have := hbel.size; have := hb1.out.size; simp; omega) ?_; intro v' w1 hown' hgrow _; obtain ⟨A', c', rfl⟩ := own_slice hown'; have hown' := Lib.hid hown'; have hv2 := Lib.hid (((hv1.out.alloc _).alloc _).kept hgrow (hvH.out.not_row zb32 hrow)); have hgrow := Lib.hid hgrow; have hl3 := hv2.out.cell; have hl4 := hv2.out.frozen))
          have hR2 : Sp.fparse a0.size f y.data.toList (acc ++ [(q1, q2)]) = R := by simpa using hst.out.symm
          have hszz := hszH.out
          have hrowW1 := row_below hrow hb1.out
          have nr : ∀ {B t u}, Boxed W B t u → t ≠ 35 → Boxed w1 B t u := fun hb ht => (((bx_below hb hb1.out).alloc _).alloc _).kept hgrow.out (hb.not_row ht hrow)
          obtain ⟨u4, hu4⟩ := hib
          have g4 := nr hu4 zb32
          refine ⟨?_, ?_, ⟨⟨f, acc ++ [(q1, q2)], _, hR2, by omega, by simp only [List.length_append, List.length_singleton]; omega, hv2.out.set _, ?_⟩, bx_set (nr hsb zb32) _ (by show w.heap.size ≠ w.heap.size + 1; omega) _, bx_set (nr hrH.out zb32) _ (by show w.heap.size + 2 ≠ w.heap.size + 1; omega) _, bx_set (nr heH.out zb32) _ (by show w.heap.size + 3 ≠ w.heap.size + 1; omega) _, ⟨u4, bx_set g4 _ (by show w.heap.size + 4 ≠ w.heap.size + 1; omega) _⟩, ?_⟩⟩
          · refine ((((keeps_below hb1.out _).trans ((KeepsOthers.alloc _ _).from _)).trans ((KeepsOthers.alloc _ _).from _)).trans ((KeepsOthers.of_grownBy hgrow.out fun j o ej hj => ?_).from _)).trans ((KeepsOthers.setCell _ _ _).from _)
            obtain ⟨cells, hcell⟩ := own_typed ((hrowW1.alloc (Obj.cells #[Value.string (Sp.mk q1), Value.string (Sp.mk q2)] 35)).alloc (Obj.cells #[Value.string (Sp.mk q1), Value.string (Sp.mk q2)] 35)) j ej
            rw [hcell] at hj
            cases hj
            rfl
          · exact (Below.heap_setCell _ _ _ _ (by show w.heap.size + 4 ≠ w.heap.size + 1; omega)).trans ((show w1.heap[w.heap.size + 4]? = _ from g4).trans (show W.heap[w.heap.size + 4]? = _ from hu4).symm)
          · have h9 := row_far (x := .slice A' (acc.length + 1) c') hown'.out hv2.out zb32
            rw [show (acc ++ [(q1, q2)]).length = acc.length + 1 from by simp, show flatV (acc ++ [(q1, q2)]) = flatV acc ++ [.string (Sp.mk q1), .string (Sp.mk q2)] from by simp [flatV]]
            exact h9
          · refine ((((hbel.trans (hb1.out.mono hbel.size)).alloc (Nat.le_trans hbel.size hb1.out.size) _).alloc ?_ _).grown hgrow.out ?_ (fun k ek => own_base hrow k ek)).setCell (p := ⟨w.heap.size + 1, 0, none⟩) (Nat.le_add_right _ _) _
            · have := hbel.size; have := hb1.out.size; simp; omega
            · have := hbel.size; have := hb1.out.size; simp; omega
  case done =>
    intro D cur W hD hcur hb hK
    obtain ⟨⟨f, acc, v, hf, hcf, hlen, hv, hrow⟩, hsb, hrb, heb, hib, hbel⟩ := hb
    obtain ⟨f, rfl⟩ : ∃ f', f = f' + 1 := ⟨f - 1, by omega⟩
    have hend := (fparse_stop a0.size f cur acc hcur).symm.trans hf
    obtain ⟨A, c, rfl⟩ := own_slice hrow
    have hc0 := hsb.cell
    have hcl := hv.cell
    have hcr := hrb.cell
    have hce := heb.cell
    have hflz := hv.frozen
    have hfr := hrb.frozen
    have hfe := heb.frozen
    have hd5 : w.heap.size + 5 ≤ D := by rw [← hsz'.out]; exact hD
    have hWk := Lib.hid (⟨hsb, hrb, heb, hbel, hv⟩ : Boxed W w.heap.size 9 (.string a0) ∧ Boxed W (w.heap.size + 2) 9 (.string ⟨#[]⟩) ∧ Boxed W (w.heap.size + 3) 29 (.int .i64 0) ∧ Below w.heap.size w W ∧ Boxed W (w.heap.size + 1) 22 (.slice A acc.length c))
    have hfB := Lib.hid (hR'.out.symm.trans hend.symm)
    have hKH := Lib.hid hK
    clear hf hlen hcur hbt' hbox' hsb hrb heb hib hbel hv hrow hend hK hR' hcf
    by_cases h8 : 8000 < (a0.size : Int)
    · have hdd := decide_eq_true h8
      gi_wp2
      obtain ⟨hsb, hrb, heb, hbel, hv⟩ := hWk.out
      have hK3 := (((KeepsOthers.setCell W ⟨w.heap.size + 1, 0, none⟩ (.slice none 0 0)).trans (KeepsOthers.setCell _ ⟨w.heap.size + 2, 0, none⟩ (.string ⟨#[]⟩))).trans (KeepsOthers.setCell _ ⟨w.heap.size + 3, 0, none⟩ (.int .i64 2))).same D _ hKH.out rfl
      refine ⟨by simp, .inl ⟨_, _, rfl, run_takeDeferred hK3, ?_⟩⟩
      exact parse_leaves rfl rfl rfl hK3 (((hv.set _).other zb26 _).other zb26 _) (((hrb.other zb26 _).set _).other zb26 _) (((heb.other zb26 _).other zb26 _).set _) (World.ownsRow_nil _ _ _ _) (((hbel.setCell (p := ⟨w.heap.size + 1, 0, none⟩) (Nat.le_add_right _ _) _).setCell (p := ⟨w.heap.size + 2, 0, none⟩) (Nat.le_add_right _ _) _).setCell (p := ⟨w.heap.size + 3, 0, none⟩) (Nat.le_add_right _ _) _) hd5 (hfB.out.trans (by rw [if_pos zb26])) rfl
    · have hdd := decide_eq_false h8
      gi_wp2
      obtain ⟨hsb, hrb, heb, hbel, hv⟩ := hWk.out
      have hK3 := (((KeepsOthers.setCell W ⟨w.heap.size + 1, 0, none⟩ (.slice none 0 0)).trans (KeepsOthers.setCell _ ⟨w.heap.size + 2, 0, none⟩ (.string ⟨#[]⟩))).trans (KeepsOthers.setCell _ ⟨w.heap.size + 3, 0, none⟩ (.int .i64 180))).same D _ hKH.out rfl
      refine ⟨by simp, .inl ⟨_, _, rfl, run_takeDeferred hK3, ?_⟩⟩
      exact parse_leaves rfl rfl rfl hK3 (((hv.set _).other zb26 _).other zb26 _) (((hrb.other zb26 _).set _).other zb26 _) (((heb.other zb26 _).other zb26 _).set _) (World.ownsRow_nil _ _ _ _) (((hbel.setCell (p := ⟨w.heap.size + 1, 0, none⟩) (Nat.le_add_right _ _) _).setCell (p := ⟨w.heap.size + 2, 0, none⟩) (Nat.le_add_right _ _) _).setCell (p := ⟨w.heap.size + 3, 0, none⟩) (Nat.le_add_right _ _) _) hd5 (hfB.out.trans (by rw [if_neg zb26])) rfl
  case stop =>
    intro D c W hD hl hK
    obtain ⟨hhow, hsb, hbel⟩ := hl
    have hd5 : w.heap.size + 5 ≤ D := by rw [← hsz'.out]; exact hD
    have hKH := Lib.hid hK
    clear hK hbt' hbox'
    rcases hhow with ⟨rfl, hfin, ⟨v, hv⟩, hrb, heb⟩ | ⟨rfl, ⟨v, hv, hrow⟩, hrb, heb⟩
    · have hc0 := hsb.cell
      have hcl := hv.cell
      have hcr := hrb.cell
      have hce := heb.cell
      have hflz := hv.frozen
      have hfr := hrb.frozen
      have hfe := heb.frozen
      have hWk := Lib.hid (⟨hsb, hrb, heb, hbel, hv⟩ : Boxed W w.heap.size 9 (.string a0) ∧ Boxed W (w.heap.size + 2) 9 (.string ⟨#[]⟩) ∧ Boxed W (w.heap.size + 3) 29 (.int .i64 0) ∧ Below w.heap.size w W ∧ Boxed W (w.heap.size + 1) 22 v)
      have hfB := Lib.hid (hR'.out.symm.trans hfin)
      clear hfin hsb hrb heb hbel hv hR'
      by_cases h8 : 8000 < (a0.size : Int)
      · have hdd := decide_eq_true h8
        gi_wp2
        obtain ⟨hsb, hrb, heb, hbel, hv⟩ := hWk.out
        have hK3 := (((KeepsOthers.setCell W ⟨w.heap.size + 1, 0, none⟩ (.slice none 0 0)).trans (KeepsOthers.setCell _ ⟨w.heap.size + 2, 0, none⟩ (.string ⟨#[]⟩))).trans (KeepsOthers.setCell _ ⟨w.heap.size + 3, 0, none⟩ (.int .i64 2))).same D _ hKH.out rfl
        refine ⟨by simp, .inl ⟨_, _, rfl, run_takeDeferred hK3, ?_⟩⟩
        exact parse_leaves rfl rfl rfl hK3 (((hv.set _).other zb26 _).other zb26 _) (((hrb.other zb26 _).set _).other zb26 _) (((heb.other zb26 _).other zb26 _).set _) (World.ownsRow_nil _ _ _ _) (((hbel.setCell (p := ⟨w.heap.size + 1, 0, none⟩) (Nat.le_add_right _ _) _).setCell (p := ⟨w.heap.size + 2, 0, none⟩) (Nat.le_add_right _ _) _).setCell (p := ⟨w.heap.size + 3, 0, none⟩) (Nat.le_add_right _ _) _) hd5 (hfB.out.trans (by rw [if_pos zb26])) rfl
      · have hdd := decide_eq_false h8
        gi_wp2
        obtain ⟨hsb, hrb, heb, hbel, hv⟩ := hWk.out
        have hK3 := (((KeepsOthers.setCell W ⟨w.heap.size + 1, 0, none⟩ (.slice none 0 0)).trans (KeepsOthers.setCell _ ⟨w.heap.size + 2, 0, none⟩ (.string ⟨#[]⟩))).trans (KeepsOthers.setCell _ ⟨w.heap.size + 3, 0, none⟩ (.int .i64 180))).same D _ hKH.out rfl
        refine ⟨by simp, .inl ⟨_, _, rfl, run_takeDeferred hK3, ?_⟩⟩
        exact parse_leaves rfl rfl rfl hK3 (((hv.set _).other zb26 _).other zb26 _) (((hrb.other zb26 _).set _).other zb26 _) (((heb.other zb26 _).other zb26 _).set _) (World.ownsRow_nil _ _ _ _) (((hbel.setCell (p := ⟨w.heap.size + 1, 0, none⟩) (Nat.le_add_right _ _) _).setCell (p := ⟨w.heap.size + 2, 0, none⟩) (Nat.le_add_right _ _) _).setCell (p := ⟨w.heap.size + 3, 0, none⟩) (Nat.le_add_right _ _) _) hd5 (hfB.out.trans (by rw [if_neg zb26])) rfl
    · have hvH := Lib.hid hv
      have hrH := Lib.hid hrb
      have heH := Lib.hid heb
      clear hv hrb heb
      gi_wp2
      refine ⟨by simp, .inl ⟨_, _, rfl, run_takeDeferred hKH.out, ?_⟩⟩
      exact parse_leaves rfl rfl rfl hKH.out hvH.out hrH.out heH.out hrow hbel hd5 hR'.out.symm rfl
theorem field_Parse.calls (a0 : ByteArray) (r1 : List S35) (r2 : ByteArray) (r3 : Int) (w : World) (hG : Glob w) (h : field_Parse.f a0 = some (r1, r2, r3)) :
    Calls Tryd.prog 20 #[.string a0] w fun e w' => ∃ v0_ : Value, e = .returned (.tuple #[v0_, .string r2, .int .i64 r3]) ∧ Kd.R k35 35 w' w.heap.size (fun _ => True) v0_ r1 ∧ Below w.heap.size w w' := by
  unfold field_Parse.f at h
  split at h
  case isFalse => exact absurd h (by simp)
  rename_i hs
  have h2 := Option.some.inj h
  have := parse_in a0 w hG hs
  rw [h2] at this
  exact this
end Go.Proofs.YtaopopnlnohnpaaDoor.O
