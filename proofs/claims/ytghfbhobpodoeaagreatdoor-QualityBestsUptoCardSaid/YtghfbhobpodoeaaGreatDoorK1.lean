/- Texts of this seat, joined: lemmas and walks that its statements' proofs use. -/
import Derived.Test.YtghfbhobpodoeaaGreatDoorProg
import Derived.Below
import Derived.Deep.Draws
import Derived.Deep.AppendLies
import Derived.Maps.AppendAt
import Derived.OwnWalk
import Derived.Laws.BytesArg
import Derived.Laws.MakeOwn
import Derived.Laws.OwnMore
import Derived.Deep.OwnRows
import Derived.Tactics
import Derived.Lib.ConvBytes
import Derived.Laws.Slices
import Derived.WalkKit
import Derived.KernelRfl
import Derived.RowKit3
import Derived.Deep.LoopGhost
import Derived.Deep.QuietTactic
import Derived.BigQuiet
import Derived.WideLaws
import Derived.Deep.DeepCutAuto
import Derived.Deep.CutBlock
import Derived.Deep.RegionHeld3
import Derived.Laws.Rows
import Derived.Lib.AppendStr
import Derived.ArgAppend
import Derived.Laws.IdiomCopy
import Derived.OrdersHeld
import Derived.Laws.BitsLemmas
import Derived.RowKit
import Derived.WalkMore
import Derived.Test.YtghfbhobpodoeaaGreatDoorK0
import Derived.Laws.Cover2
import Derived.Deep.RegionLaw
import Derived.Deep.SlicePairs
import Derived.Deep.Slices
import Derived.Deep.Strs
import Derived.HandedShaped
import Derived.LaidLaws
import Derived.Laws.Externs
import Derived.Laws.FloatArith
import Derived.Laws.IdiomArrays
import Derived.Laws.StructEq
import Derived.Lib.Hide
import Derived.Lib.IndexMore
import Derived.Lib.ItoaNum
import Derived.Lib.LaidTab
import Derived.Lib.LaidU8
import Derived.Lib.OthersKept
import Derived.Lib.SlTrimSet
import Derived.Lib.SmallJoins
import Derived.MakeChecks
import Derived.ProofKit
import Derived.RangeFuncBox
import Derived.Shelf.LaysC
import Derived.Shelf.LaysM
import Derived.Shelf.Small.Strs
import Derived.Shelf.Small.Utf8
import Derived.Shelf.Strconv.Atoi
import Derived.Shelf.Strconv.AtoiAll
import Derived.Shelf.Strconv.AtoiErrFast
import Derived.Shelf.Strconv.AtoiFail
import Derived.Shelf.Strconv.AtoiInnerAll
import Derived.Shelf.Strconv.AtoiLong
import Derived.Shelf.Strconv.Clone
import Derived.Shelf.Strconv.ErrVarAll
import Derived.Shelf.Strconv.Itoa0
import Derived.Shelf.Strconv.Lower
import Derived.Shelf.Strconv.ParseInt10
import Derived.Shelf.Strconv.ParseIntEmpty
import Derived.Shelf.Strconv.ParseUint10
import Derived.Shelf.Strconv.ParseUint10Any
import Derived.Shelf.Strconv.ParseUint10Empty
import Derived.Shelf.Strconv.RangeError
import Derived.Shelf.Strconv.SyntaxError
import Derived.Shelf.Strconv.ToError
import Derived.Shelf.Strconv.ToErrorRange
import Derived.Shelf.Strings.AsciiSet
import Derived.Shelf.Strings.Builder1
import Derived.Shelf.Strings.BuilderF
import Derived.Shelf.Strings.BuilderK
import Derived.Shelf.Strings.Cut
import Derived.Shelf.Strings.Prefix
import Derived.Shelf.Strings.Runes
import Derived.Shelf.Strings.Search1
import Derived.Shelf.Strings.Search2
import Derived.Shelf.Strings.Shaped
import Derived.Shelf.Strings.SlTrimAscii
import Derived.Shelf.Strings.Trim
import Derived.Shelf.Unicode.DecodeSlow
import GoSem.Core.Float
/- Px0 -/
namespace Go.Proofs.YtghfbhobpodoeaaGreatDoor.P
open Go.Proofs.YtghfbhobpodoeaaGreatDoor.B
open Go.RowKit Go.Proofs.YtghfbhobpodoeaaGreatDoorW.PrintWords Go.Proofs.YtghfbhobpodoeaaGreatDoorW.PrintLast Go.Proofs.YtghfbhobpodoeaaGreatDoorW.PrintMore
attribute [local go_sem] run_store_float str_leq str_gtr str_geq max2_int min2_int max_two min_two max_three min_three max_four min_four
set_option linter.unusedVariables false
set_option linter.unusedSimpArgs false
def errW : Option Int → Value
  | none => .nilIface
  | some c => .iface 0 (.int .i64 c)
theorem errW_none : errW none = .nilIface := rfl
theorem errW_some (c : Int) : errW (some c) = .iface 0 (.int .i64 c) := rfl
theorem info5 : (Tryz.prog.info? 5).map (fun i => (i.zero, i.size, i.bytes)) = some (some (.int .u8 0), 1, 1) := by kernel_rfl
theorem info9 : (Tryz.prog.info? 9).map (fun i => (i.zero, i.size, i.bytes)) = some (some (.string ⟨#[]⟩), 1, 16) := by kernel_rfl
theorem info40 : (Tryz.prog.info? 40).map (fun i => (i.zero, i.size, i.bytes)) = some (some (.agg #[(.string ⟨#[]⟩), (.string ⟨#[]⟩), (.slice none 0 0)]), 3, 56) := by kernel_rfl
theorem info50 : (Tryz.prog.info? 50).map (fun i => (i.zero, i.size, i.bytes)) = some (some (.agg #[(.string ⟨#[]⟩), (.string ⟨#[]⟩)]), 2, 32) := by kernel_rfl
-- the values' own types
structure S50 where
  f0 : ByteArray
  f1 : ByteArray
def z50 : S50 := ⟨(⟨#[]⟩ : ByteArray), (⟨#[]⟩ : ByteArray)⟩
def k50 : Kd S50 := Kd.iso (Kd.pair Kd.string Kd.string) (fun x : S50 => (x.f0, x.f1))
theorem k50_open {w : World} {x : S50} {cs : List Value} (h : k50.K w x cs) : cs = [.string x.f0, .string x.f1] := by
  obtain ⟨_, _, rfl, rfl, rfl⟩ := h
  exact rfl
theorem k50_mk (w : World) (x : S50)  : k50.K w x [.string x.f0, .string x.f1] := ⟨[.string x.f0], [.string x.f1], rfl, rfl, rfl⟩
theorem k50_mkM (w : World) (base : Nat) (ok : Nat → Prop) (x : S50)  : k50.M w base ok x [.string x.f0, .string x.f1] := ⟨[.string x.f0], [.string x.f1], rfl, rfl, rfl⟩
def rd_T50 (xs : List S50) (i : Int) : S50 := xs.getD i.toNat z50
theorem at_T50 {w : World} {A : Option Addr} {n : Nat} {xs : List S50} (h : Kd.C k50 w A n xs) (i : Int) (h0 : 0 ≤ i) (h1 : i < n) : ∃ ad , A = some ad ∧ w.cell? (ad.add (i.toNat * 2)) = some (.string (rd_T50 xs i).f0) ∧ w.cell? ⟨(ad.add (i.toNat * 2)).block, (ad.add (i.toNat * 2)).off + 1, none⟩ = some (.string (rd_T50 xs i).f1) := by
  obtain ⟨ad, c, e, _, hK, hc0⟩ := Kd.C_get h z50 i h0 h1
  have hc : ∀ j u, c[j]? = some u → w.cell? (ad.add (i.toNat * 2 + j)) = some u := hc0
  obtain rfl := k50_open hK
  exact ⟨ad, e, hc 0 _ rfl, by rw [← add_field _ _ 1 (by omega)]; exact hc 1 _ rfl⟩
structure S40 where
  f0 : ByteArray
  f1 : ByteArray
  f2 : (List S50)
def z40 : S40 := ⟨(⟨#[]⟩ : ByteArray), (⟨#[]⟩ : ByteArray), ([] : List S50)⟩
def k40 : Kd S40 := Kd.iso (Kd.pair Kd.string (Kd.pair Kd.string (Kd.slice 50 k50))) (fun x : S40 => (x.f0, x.f1, x.f2))
theorem k40_open {w : World} {x : S40} {cs : List Value} (h : k40.K w x cs) : ∃ A2 c2, cs = [.string x.f0, .string x.f1, .slice A2 x.f2.length c2] ∧ x.f2.length ≤ c2 ∧ k50.C w A2 x.f2.length x.f2 := by
  obtain ⟨_, _, rfl, rfl, ⟨_, _, rfl, rfl, ⟨A2, c2, rfl, l2, g2⟩⟩⟩ := h
  exact ⟨A2, c2, rfl, l2, g2⟩
theorem k40_mk (w : World) (x : S40) {A2 : Option Addr} {c2 : Nat} (l2 : x.f2.length ≤ c2) (g2 : k50.C w A2 x.f2.length x.f2) : k40.K w x [.string x.f0, .string x.f1, .slice A2 x.f2.length c2] := ⟨[.string x.f0], [.string x.f1, .slice A2 x.f2.length c2], rfl, rfl, ⟨[.string x.f1], [.slice A2 x.f2.length c2], rfl, rfl, ⟨A2, c2, rfl, l2, g2⟩⟩⟩
theorem k40_mkM (w : World) (base : Nat) (ok : Nat → Prop) (x : S40) {v2 : Value} (g2 : k50.R 50 w base ok v2 x.f2) : k40.M w base ok x [.string x.f0, .string x.f1, v2] := ⟨[.string x.f0], [.string x.f1, v2], rfl, rfl, ⟨[.string x.f1], [v2], rfl, rfl, ⟨v2, rfl, g2⟩⟩⟩
theorem k40_mkF (W : World) (ok : Nat → Prop) (x : S40) {A2 : Option Addr} {c2 : Nat} (l2 : x.f2.length ≤ c2) (g2 : Kd.F k50 W ok A2 x.f2.length x.f2) : Kd.FK k40 W ok x [.string x.f0, .string x.f1, .slice A2 x.f2.length c2] := fun W2 hW => k40_mk W2 x l2 (g2 W2 hW)
def rd_T40 (xs : List S40) (i : Int) : S40 := xs.getD i.toNat z40
theorem at_T40 {w : World} {A : Option Addr} {n : Nat} {xs : List S40} (h : Kd.C k40 w A n xs) (i : Int) (h0 : 0 ≤ i) (h1 : i < n) : ∃ ad A2 c2, A = some ad ∧ w.cell? (ad.add (i.toNat * 3)) = some (.string (rd_T40 xs i).f0) ∧ w.cell? ⟨(ad.add (i.toNat * 3)).block, (ad.add (i.toNat * 3)).off + 1, none⟩ = some (.string (rd_T40 xs i).f1) ∧ w.cell? ⟨(ad.add (i.toNat * 3)).block, (ad.add (i.toNat * 3)).off + 2, none⟩ = some (.slice A2 (rd_T40 xs i).f2.length c2) ∧ (rd_T40 xs i).f2.length ≤ c2 ∧ k50.C w A2 (rd_T40 xs i).f2.length (rd_T40 xs i).f2 := by
  obtain ⟨ad, c, e, _, hK, hc0⟩ := Kd.C_get h z40 i h0 h1
  have hc : ∀ j u, c[j]? = some u → w.cell? (ad.add (i.toNat * 3 + j)) = some u := hc0
  obtain ⟨A2, c2, rfl, l2, g2⟩ := k40_open hK
  exact ⟨ad, A2, c2, e, hc 0 _ rfl, by rw [← add_field _ _ 1 (by omega)]; exact hc 1 _ rfl, by rw [← add_field _ _ 2 (by omega)]; exact hc 2 _ rfl, l2, g2⟩
structure S66 where
  f0 : S40
  f1 : Nat
  f2 : Int
def z66 : S66 := ⟨z40, (0 : Nat), (0 : Int)⟩
def k66 : Kd S66 := Kd.iso (Kd.pair k40 (Kd.pair Kd.flt (Kd.int .i64))) (fun x : S66 => (x.f0, x.f1, x.f2))
theorem k66_open {w : World} {x : S66} {cs : List Value} (h : k66.K w x cs) : ∃ A2 c2, cs = [.string x.f0.f0, .string x.f0.f1, .slice A2 x.f0.f2.length c2, .float .f64 x.f1, .int .i64 x.f2] ∧ x.f0.f2.length ≤ c2 ∧ k50.C w A2 x.f0.f2.length x.f0.f2 := by
  obtain ⟨_, _, rfl, s0, ⟨_, _, rfl, rfl, rfl⟩⟩ := h
  obtain ⟨A2, c2, rfl, l2, g2⟩ := k40_open s0
  exact ⟨A2, c2, rfl, l2, g2⟩
theorem k66_mkM (w : World) (base : Nat) (ok : Nat → Prop) (x : S66) {v2 : Value} (g2 : k50.R 50 w base ok v2 x.f0.f2) : k66.M w base ok x [.string x.f0.f0, .string x.f0.f1, v2, .float .f64 x.f1, .int .i64 x.f2] := ⟨[.string x.f0.f0, .string x.f0.f1, v2], [.float .f64 x.f1, .int .i64 x.f2], rfl, (k40_mkM w base ok x.f0 g2), ⟨[.float .f64 x.f1], [.int .i64 x.f2], rfl, rfl, rfl⟩⟩
theorem k66_openF {W : World} {ok : Nat → Prop} {x : S66} {cs : List Value} (h : Kd.FK k66 W ok x cs) : ∃ A2 c2, cs = [.string x.f0.f0, .string x.f0.f1, .slice A2 x.f0.f2.length c2, .float .f64 x.f1, .int .i64 x.f2] ∧ x.f0.f2.length ≤ c2 ∧ Kd.F k50 W ok A2 x.f0.f2.length x.f0.f2 := by
  obtain ⟨A2, c2, rfl, l2, _⟩ := k66_open (Kd.FK_now h)
  exact ⟨A2, c2, rfl, l2, (fun W' hW => by obtain ⟨A2_, c2_, he, l2_, g2_⟩ := k66_open (h W' hW); injection (Option.some.inj (show some (Value.slice A2 x.f0.f2.length c2) = some (Value.slice A2_ x.f0.f2.length c2_) from congrArg (fun l => l[2]?) he)) with ha_ _ _; rw [ha_]; exact g2_)⟩
def rd_T66 (xs : List S66) (i : Int) : S66 := xs.getD i.toNat z66
theorem at_T66 {w : World} {A : Option Addr} {n : Nat} {xs : List S66} (h : Kd.C k66 w A n xs) (i : Int) (h0 : 0 ≤ i) (h1 : i < n) : ∃ ad A2 c2, A = some ad ∧ w.cell? (ad.add (i.toNat * 5)) = some (.string (rd_T66 xs i).f0.f0) ∧ w.cell? ⟨(ad.add (i.toNat * 5)).block, (ad.add (i.toNat * 5)).off + 1, none⟩ = some (.string (rd_T66 xs i).f0.f1) ∧ w.cell? ⟨(ad.add (i.toNat * 5)).block, (ad.add (i.toNat * 5)).off + 2, none⟩ = some (.slice A2 (rd_T66 xs i).f0.f2.length c2) ∧ w.cell? ⟨(ad.add (i.toNat * 5)).block, (ad.add (i.toNat * 5)).off + 3, none⟩ = some (.float .f64 (rd_T66 xs i).f1) ∧ w.cell? ⟨(ad.add (i.toNat * 5)).block, (ad.add (i.toNat * 5)).off + 4, none⟩ = some (.int .i64 (rd_T66 xs i).f2) ∧ (rd_T66 xs i).f0.f2.length ≤ c2 ∧ k50.C w A2 (rd_T66 xs i).f0.f2.length (rd_T66 xs i).f0.f2 := by
  obtain ⟨ad, c, e, _, hK, hc0⟩ := Kd.C_get h z66 i h0 h1
  have hc : ∀ j u, c[j]? = some u → w.cell? (ad.add (i.toNat * 5 + j)) = some u := hc0
  obtain ⟨A2, c2, rfl, l2, g2⟩ := k66_open hK
  exact ⟨ad, A2, c2, e, hc 0 _ rfl, by rw [← add_field _ _ 1 (by omega)]; exact hc 1 _ rfl, by rw [← add_field _ _ 2 (by omega)]; exact hc 2 _ rfl, by rw [← add_field _ _ 3 (by omega)]; exact hc 3 _ rfl, by rw [← add_field _ _ 4 (by omega)]; exact hc 4 _ rfl, l2, g2⟩
structure S71 where
  f0 : S40
  f1 : Nat
  f2 : Int
def z71 : S71 := ⟨z40, (0 : Nat), (0 : Int)⟩
def k71 : Kd S71 := Kd.iso (Kd.pair k40 (Kd.pair Kd.flt (Kd.int .i64))) (fun x : S71 => (x.f0, x.f1, x.f2))
theorem k71_open {w : World} {x : S71} {cs : List Value} (h : k71.K w x cs) : ∃ A2 c2, cs = [.string x.f0.f0, .string x.f0.f1, .slice A2 x.f0.f2.length c2, .float .f64 x.f1, .int .i64 x.f2] ∧ x.f0.f2.length ≤ c2 ∧ k50.C w A2 x.f0.f2.length x.f0.f2 := by
  obtain ⟨_, _, rfl, s0, ⟨_, _, rfl, rfl, rfl⟩⟩ := h
  obtain ⟨A2, c2, rfl, l2, g2⟩ := k40_open s0
  exact ⟨A2, c2, rfl, l2, g2⟩
theorem k71_mkM (w : World) (base : Nat) (ok : Nat → Prop) (x : S71) {v2 : Value} (g2 : k50.R 50 w base ok v2 x.f0.f2) : k71.M w base ok x [.string x.f0.f0, .string x.f0.f1, v2, .float .f64 x.f1, .int .i64 x.f2] := ⟨[.string x.f0.f0, .string x.f0.f1, v2], [.float .f64 x.f1, .int .i64 x.f2], rfl, (k40_mkM w base ok x.f0 g2), ⟨[.float .f64 x.f1], [.int .i64 x.f2], rfl, rfl, rfl⟩⟩
def rd_T71 (xs : List S71) (i : Int) : S71 := xs.getD i.toNat z71
theorem at_T71 {w : World} {A : Option Addr} {n : Nat} {xs : List S71} (h : Kd.C k71 w A n xs) (i : Int) (h0 : 0 ≤ i) (h1 : i < n) : ∃ ad A2 c2, A = some ad ∧ w.cell? (ad.add (i.toNat * 5)) = some (.string (rd_T71 xs i).f0.f0) ∧ w.cell? ⟨(ad.add (i.toNat * 5)).block, (ad.add (i.toNat * 5)).off + 1, none⟩ = some (.string (rd_T71 xs i).f0.f1) ∧ w.cell? ⟨(ad.add (i.toNat * 5)).block, (ad.add (i.toNat * 5)).off + 2, none⟩ = some (.slice A2 (rd_T71 xs i).f0.f2.length c2) ∧ w.cell? ⟨(ad.add (i.toNat * 5)).block, (ad.add (i.toNat * 5)).off + 3, none⟩ = some (.float .f64 (rd_T71 xs i).f1) ∧ w.cell? ⟨(ad.add (i.toNat * 5)).block, (ad.add (i.toNat * 5)).off + 4, none⟩ = some (.int .i64 (rd_T71 xs i).f2) ∧ (rd_T71 xs i).f0.f2.length ≤ c2 ∧ k50.C w A2 (rd_T71 xs i).f0.f2.length (rd_T71 xs i).f0.f2 := by
  obtain ⟨ad, c, e, _, hK, hc0⟩ := Kd.C_get h z71 i h0 h1
  have hc : ∀ j u, c[j]? = some u → w.cell? (ad.add (i.toNat * 5 + j)) = some u := hc0
  obtain ⟨A2, c2, rfl, l2, g2⟩ := k71_open hK
  exact ⟨ad, A2, c2, e, hc 0 _ rfl, by rw [← add_field _ _ 1 (by omega)]; exact hc 1 _ rfl, by rw [← add_field _ _ 2 (by omega)]; exact hc 2 _ rfl, by rw [← add_field _ _ 3 (by omega)]; exact hc 3 _ rfl, by rw [← add_field _ _ 4 (by omega)]; exact hc 4 _ rfl, l2, g2⟩
/-- A state of type 85 at block g of W; what its slices lead to came in by w0. -/
def IsS85 (w0 W : World) (g : Nat) (f0 : ByteArray) : Prop := W.heap[g]? = some (.cells #[.string f0] 85 (0, 0)) ∧ w0.heap.size ≤ g
theorem IsS85.grown {w0 W : World} {g : Nat} {f0 : ByteArray} {W1 : World} {row : Option Nat} (h : IsS85 w0 W g f0) (hw : W.grownBy W1 row) (hne : some g ≠ row) : IsS85 w0 W1 g f0 := by
  obtain ⟨hb, hg⟩ := h
  exact ⟨blk_grown hb hw hne, hg⟩
theorem IsS85.kept {w0 W : World} {g : Nat} {f0 : ByteArray} {W1 : World} {S : Nat → Prop} (h : IsS85 w0 W g f0) (hk : Kept W W1 S) (hne : ¬ S g) : IsS85 w0 W1 g f0 := by
  obtain ⟨hb, hg⟩ := h
  exact ⟨blk_kept hb hk hne, hg⟩
theorem IsS85.below {w0 W : World} {g : Nat} {f0 : ByteArray} {W1 : World} (h : IsS85 w0 W g f0) (hw : Below W.heap.size W W1) : IsS85 w0 W1 g f0 := h.grown (grown_of_below hw none) (by simp)
theorem IsS85.alloc {w0 W : World} {g : Nat} {f0 : ByteArray} (h : IsS85 w0 W g f0) (o : Obj) : IsS85 w0 (W.alloc o) g f0 := h.below (below_alloc (Below.refl _ _) o)
theorem IsS85.drewN {w0 W : World} {g : Nat} {f0 : ByteArray} (h : IsS85 w0 W g f0) (m : Nat) : IsS85 w0 (W.drewN m) g f0 := h
theorem IsS85.drew {w0 W : World} {g : Nat} {f0 : ByteArray} (h : IsS85 w0 W g f0) : IsS85 w0 W.drew g f0 := h
theorem IsS85.at_ {w0 W : World} {g : Nat} {f0 : ByteArray} {w' : World} {m : Nat} (hq : W.drewN m = w') (h : IsS85 w0 W g f0) : IsS85 w0 w' g f0 := by subst hq; exact IsS85.drewN h m
theorem IsS85.apart {w0 W : World} {g : Nat} {f0 : ByteArray} {α : Type} {d : Kd α} {e : Nat} {base : Nat} {ok : Nat → Prop} {v : Value} {xs : List α} (h : IsS85 w0 W g f0) (ho : d.R e W base ok v xs) (ht : ∀ q, q ∈ e :: d.E → q ≠ 85) : d.R e W base (fun k => ok k ∧ k ≠ g) v xs := by
  obtain ⟨hb, hg⟩ := h
  exact Kd.R_types ho hb ht
theorem IsS85.own_ne {w0 W : World} {g : Nat} {f0 : ByteArray} {α : Type} {d : Kd α} {e : Nat} {base : Nat} {ok : Nat → Prop} {v : Value} {xs : List α} (h : IsS85 w0 W g f0) (ho : d.R e W base ok v xs) (ht : e ≠ 85) : some g ≠ v.ownBlock := by
  obtain ⟨hb, hg⟩ := h
  exact Kd.R_ne ho hb ht
theorem IsS85.lt {w0 W : World} {g : Nat} {f0 : ByteArray} (h : IsS85 w0 W g f0) : g < W.heap.size := by
  obtain ⟨hb, hg⟩ := h
  exact blk_lt hb
theorem IsS85.ge {w0 W : World} {g : Nat} {f0 : ByteArray} (h : IsS85 w0 W g f0) : w0.heap.size ≤ g := by
  obtain ⟨hb, hg⟩ := h
  exact hg
theorem IsS85.far {w0 W : World} {g : Nat} {f0 : ByteArray} {p : Addr} (h : IsS85 w0 W g f0) (hne : g ≠ p.block) (u : Value) : IsS85 w0 (W.setCell p u) g f0 := by
  obtain ⟨hb, hg⟩ := h
  exact ⟨blk_far hb hne u, hg⟩
theorem cellS85_0 {W : World} {g : Nat} {f0 : ByteArray} (h : W.heap[g]? = some (.cells #[.string f0] 85 (0, 0))) : W.cell? ⟨g, 0, none⟩ = some (.string f0) := (blk_cell h 0).trans rfl
theorem IsS85.set_0 {w0 W : World} {g : Nat} {f0 : ByteArray} (h : IsS85 w0 W g f0) (x : ByteArray) : IsS85 w0 (W.setCell ⟨g, 0, none⟩ (.string x)) g x := by
  obtain ⟨hb, hg⟩ := h
  exact ⟨by simpa using blk_set hb 0 (.string x), hg⟩
theorem IsS85.new (w0 W : World) (f0 : ByteArray) (hB : Below w0.heap.size w0 W) : IsS85 w0 (W.alloc (.cells #[.string f0] 85)) W.heap.size f0 := ⟨by simpa using heap_alloc_new W _, hB.size⟩
theorem IsS85.own_far {w0 W : World} {g : Nat} {f0 : ByteArray} {α : Type} {d : Kd α} {e : Nat} {base : Nat} {ok : Nat → Prop} {v : Value} {xs : List α} (h : IsS85 w0 W g f0) (ho : d.R e W base ok v xs) (ht : e ≠ 85) : some g ≠ v.ownBlock := IsS85.own_ne h ho ht
/-- A strings.Builder at block g that holds f0. -/
def IsS134 (w0 W : World) (g : Nat) (f0 : ByteArray) : Prop := Bld 134 5 w0 W g f0
theorem IsS134.new {w0 W : World} {g : Nat} (hb : W.heap[g]? = some (.cells #[.pointer none, .slice none 0 0] 134 (0, 0))) (hg : w0.heap.size ≤ g) : IsS134 w0 W g ⟨#[]⟩ := .inl ⟨hg, .slice none 0 0, hb, ⟨by simp [Lib.byteCells], .inl ⟨rfl, by simp [Lib.byteCells]⟩⟩, by simp [Value.ownBlock]⟩
theorem IsS134.below {w0 W : World} {g : Nat} {f0 : ByteArray} {W1 : World} (h : IsS134 w0 W g f0) (hw : Below W.heap.size W W1) : IsS134 w0 W1 g f0 := Bld.below h hw
theorem IsS134.grown {w0 W : World} {g : Nat} {f0 : ByteArray} {W1 : World} {row : Option Nat} (h : IsS134 w0 W g f0) (hw : W.grownBy W1 row) (hne : ∀ k, row = some k → k ≠ g ∧ ∀ c fz, W.heap[k]? ≠ some (.cells c 5 fz)) : IsS134 w0 W1 g f0 := Bld.grown h hw hne
theorem IsS134.kept {w0 W : World} {g : Nat} {f0 : ByteArray} {W1 : World} {S : Nat → Prop} (h : IsS134 w0 W g f0) (hk : Kept W W1 S) (hne : ∀ k, S k → k ≠ g ∧ ∀ c fz, W.heap[k]? ≠ some (.cells c 5 fz)) : IsS134 w0 W1 g f0 := Bld.kept h hk.2 hne
theorem IsS134.alloc {w0 W : World} {g : Nat} {f0 : ByteArray} (h : IsS134 w0 W g f0) (o : Obj) : IsS134 w0 (W.alloc o) g f0 := Bld.below h (below_alloc (Below.refl _ _) o)
theorem IsS134.drewN {w0 W : World} {g : Nat} {f0 : ByteArray} (h : IsS134 w0 W g f0) (m : Nat) : IsS134 w0 (W.drewN m) g f0 := h
theorem IsS134.drew {w0 W : World} {g : Nat} {f0 : ByteArray} (h : IsS134 w0 W g f0) : IsS134 w0 W.drew g f0 := h
theorem IsS134.at_ {w0 W : World} {g : Nat} {f0 : ByteArray} {w' : World} {m : Nat} (hq : W.drewN m = w') (h : IsS134 w0 W g f0) : IsS134 w0 w' g f0 := by subst hq; exact IsS134.drewN h m
theorem IsS134.apart {w0 W : World} {g : Nat} {f0 : ByteArray} {α : Type} {d : Kd α} {e : Nat} {base : Nat} {ok : Nat → Prop} {v : Value} {xs : List α} (h : IsS134 w0 W g f0) (ho : d.R e W base ok v xs) (ht : ∀ q, q ∈ e :: d.E → q ≠ 134) : d.R e W base (fun k => ok k ∧ k ≠ g) v xs := by
  obtain ⟨_, hb⟩ := Bld.blk h
  exact Kd.R_types ho hb ht
theorem IsS134.own_ne {w0 W : World} {g : Nat} {f0 : ByteArray} {α : Type} {d : Kd α} {e : Nat} {base : Nat} {ok : Nat → Prop} {v : Value} {xs : List α} (h : IsS134 w0 W g f0) (ho : d.R e W base ok v xs) (ht : e ≠ 134) : some g ≠ v.ownBlock := by
  obtain ⟨_, hb⟩ := Bld.blk h
  exact Kd.R_ne ho hb ht
theorem IsS134.own_far {w0 W : World} {g : Nat} {f0 : ByteArray} {α : Type} {d : Kd α} {e : Nat} {base : Nat} {ok : Nat → Prop} {v : Value} {xs : List α} (h : IsS134 w0 W g f0) (ho : d.R e W base ok v xs) (ht : e ≠ 134 ∧ e ≠ 5) : ∀ k, v.ownBlock = some k → k ≠ g ∧ ∀ c fz, W.heap[k]? ≠ some (.cells c 5 fz) := by
  obtain ⟨inner, hi⟩ := Kd.R_own ho
  exact typed_far (Bld.blk h) hi ht.1 ht.2
theorem IsS134.lt {w0 W : World} {g : Nat} {f0 : ByteArray} (h : IsS134 w0 W g f0) : g < W.heap.size := Bld.lt h
theorem IsS134.ge {w0 W : World} {g : Nat} {f0 : ByteArray} (h : IsS134 w0 W g f0) : w0.heap.size ≤ g := Bld.ge h
theorem IsS134.farB {w0 W : World} {g : Nat} {f0 : ByteArray} {p : Addr} (h : IsS134 w0 W g f0) (hne : g ≠ p.block) {t : Nat} (ht : ∃ c fz, W.heap[p.block]? = some (.cells c t fz)) (hte : t ≠ 5) (u : Value) : IsS134 w0 (W.setCell p u) g f0 := Bld.farB h hne ht hte u
end Go.Proofs.YtghfbhobpodoeaaGreatDoor.P
/- Ab -/
namespace Go.Proofs.YtghfbhobpodoeaaGreatDoor
theorem zb0 {P : Prop} (h : P := by repeat (first | (with_reducible first | exact HB.out | apply below_alloc | apply pw_below_drewN | apply below_drew1) | exact HB.out)) : P := h
theorem zb1 {P : Prop} (h : P := by intro h_; simp only [ByteArray.size_append, ByteArray.size_extract, eq_iff_iff, iff_true, iff_false, decide_eq_true_eq] at *; omega) : P := h
theorem zb2 {P : Prop} (h : P := by (try simp only [List.map_toArray, List.map_cons, List.map_nil]); first | done | rfl | (simp only [List.length_drop, List.length_take]; rfl)) : P := h
theorem zb3 {P : Prop} (h : P := by first | (with_reducible assumption) | assumption) : P := h
theorem zb4 {P : Prop} (h : P := by first | rfl | (simp; done) | (simp [*]; done)) : P := h
theorem zb5 {P : Prop} (h : P := by (with_reducible repeat (first | apply Kd.V_alloc | apply Kd.V_drewN | apply Kd.V_drew)); exact (Kd.V_mono (Kd.V_far (p := ⟨gb162, 4, none⟩) (Kd.V_far (p := ⟨gb162, 3, none⟩) (Kd.V_far (p := ⟨gb162, 2, none⟩) (Kd.V_far (p := ⟨gb162, 1, none⟩) (Kd.V_far (p := ⟨gb162, 0, none⟩) (Kd.V_mono HL161_2.out (fun k_ hk => (⟨hk, hk.2⟩ : _ ∧ k_ ≠ gb162))) (fun _ hk => hk.2) (.string ((rd_T66 l0 x11_1).f0.f0))) (fun _ hk => hk.2) (.string ((rd_T66 l0 x11_1).f0.f1))) (fun _ hk => hk.2) (.slice A161_2 ((rd_T66 l0 x11_1).f0.f2).length c161_2)) (fun _ hk => hk.2) (.float .f64 ((rd_T66 l0 x11_1).f1))) (fun _ hk => hk.2) (.int .i64 ((rd_T66 l0 x11_1).f2))) (fun _ h_ => h_.1))) : P := h
theorem zb6 {P : Prop} (h : P := by first | rfl | (simp [errW_none, errW_some, bne_nil_] <;> rfl) | (simp [*, errW_none, errW_some] <;> rfl)) : P := h
theorem zb7 {P : Prop} (h : P := by repeat (first | (with_reducible first | exact HB.out | apply below_alloc | apply pw_below_drewN | apply below_drew1 | refine below_set ?_ GE159.out | refine below_set ?_ GE160.out | refine below_set ?_ GE162.out) | exact HB.out)) : P := h
theorem zb8 {P : Prop} (h : P := by repeat (first | (with_reducible first | exact HB.out | apply below_alloc | apply pw_below_drewN | apply below_drew1 | refine below_set ?_ GE159.out | refine below_set ?_ GE160.out) | exact HB.out)) : P := h
theorem zb9 {P : Prop} (h : P := by kernel_rfl) : P := h
theorem zb10 {P : Prop} (h : P := by (with_reducible repeat (first | refine blk_drewN ?_ _ | refine blk_drew ?_ | refine blk_alloc ?_ _)); exact BK159.out) : P := h
theorem zb11 {P : Prop} (h : P := by (with_reducible repeat (first | refine blk_drewN ?_ _ | refine blk_drew ?_ | refine blk_alloc ?_ _)); refine blk_put (cs := #[.string ((rd_T66 l0 x11_1).f0.f0), .string ((rd_T66 l0 x11_1).f0.f1), .slice A161_2 ((rd_T66 l0 x11_1).f0.f2).length c161_2, .float .f64 ((rd_T66 l0 x11_1).f1), .int .i64 0]) ?_ 4 _ rfl; (with_reducible repeat (first | refine blk_drewN ?_ _ | refine blk_drew ?_ | refine blk_alloc ?_ _)); refine blk_put (cs := #[.string ((rd_T66 l0 x11_1).f0.f0), .string ((rd_T66 l0 x11_1).f0.f1), .slice A161_2 ((rd_T66 l0 x11_1).f0.f2).length c161_2, .float .f64 0, .int .i64 0]) ?_ 3 _ rfl; (with_reducible repeat (first | refine blk_drewN ?_ _ | refine blk_drew ?_ | refine blk_alloc ?_ _)); refine blk_put (cs := #[.string ((rd_T66 l0 x11_1).f0.f0), .string ((rd_T66 l0 x11_1).f0.f1), .slice none 0 0, .float .f64 0, .int .i64 0]) ?_ 2 _ rfl; (with_reducible repeat (first | refine blk_drewN ?_ _ | refine blk_drew ?_ | refine blk_alloc ?_ _)); refine blk_put (cs := #[.string ((rd_T66 l0 x11_1).f0.f0), .string (⟨#[]⟩ : ByteArray), .slice none 0 0, .float .f64 0, .int .i64 0]) ?_ 1 _ rfl; (with_reducible repeat (first | refine blk_drewN ?_ _ | refine blk_drew ?_ | refine blk_alloc ?_ _)); refine blk_put (cs := #[.string (⟨#[]⟩ : ByteArray), .string (⟨#[]⟩ : ByteArray), .slice none 0 0, .float .f64 0, .int .i64 0]) ?_ 0 _ rfl; (with_reducible repeat (first | refine blk_drewN ?_ _ | refine blk_drew ?_ | refine blk_alloc ?_ _)); exact BK162.out) : P := h
theorem zb12 {P : Prop} (h : P := by (with_reducible repeat (first | refine blk_drewN ?_ _ | refine blk_drew ?_ | refine blk_alloc ?_ _)); exact BK160.out) : P := h
theorem zb13 {P : Prop} (h : P := by (with_reducible repeat (first | apply Kd.N_alloc | apply Kd.N_drewN | apply Kd.N_drew)); exact HO279.out) : P := h
theorem zb14 {P : Prop} (h : P := by repeat (first | (with_reducible first | exact HK.out | apply KeepBut.set_ | apply keep_drewN | apply keep_drew | apply keep_alloc) | exact HK.out)) : P := h
theorem zb15 {P : Prop} (h : P := by repeat (first | (with_reducible first | exact HB.out | apply below_alloc | apply pw_below_drewN | apply below_drew1 | refine below_set ?_ GE246.out | refine below_set ?_ GE247.out) | exact HB.out)) : P := h
theorem zb16 {P : Prop} (h : P := by (with_reducible repeat (first | refine blk_drewN ?_ _ | refine blk_drew ?_ | refine blk_alloc ?_ _)); refine blk_far ?_ NB160_162.out _; (with_reducible repeat (first | refine blk_drewN ?_ _ | refine blk_drew ?_ | refine blk_alloc ?_ _)); refine blk_far ?_ NB160_162.out _; (with_reducible repeat (first | refine blk_drewN ?_ _ | refine blk_drew ?_ | refine blk_alloc ?_ _)); refine blk_far ?_ NB160_162.out _; (with_reducible repeat (first | refine blk_drewN ?_ _ | refine blk_drew ?_ | refine blk_alloc ?_ _)); refine blk_far ?_ NB160_162.out _; (with_reducible repeat (first | refine blk_drewN ?_ _ | refine blk_drew ?_ | refine blk_alloc ?_ _)); refine blk_far ?_ NB160_162.out _; (with_reducible repeat (first | refine blk_drewN ?_ _ | refine blk_drew ?_ | refine blk_alloc ?_ _)); exact BK160.out) : P := h
theorem zb17 {P : Prop} (h : P := by (with_reducible repeat (first | refine blk_drewN ?_ _ | refine blk_drew ?_ | refine blk_alloc ?_ _)); refine blk_far ?_ NB159_162.out _; (with_reducible repeat (first | refine blk_drewN ?_ _ | refine blk_drew ?_ | refine blk_alloc ?_ _)); refine blk_far ?_ NB159_162.out _; (with_reducible repeat (first | refine blk_drewN ?_ _ | refine blk_drew ?_ | refine blk_alloc ?_ _)); refine blk_far ?_ NB159_162.out _; (with_reducible repeat (first | refine blk_drewN ?_ _ | refine blk_drew ?_ | refine blk_alloc ?_ _)); refine blk_far ?_ NB159_162.out _; (with_reducible repeat (first | refine blk_drewN ?_ _ | refine blk_drew ?_ | refine blk_alloc ?_ _)); refine blk_far ?_ NB159_162.out _; (with_reducible repeat (first | refine blk_drewN ?_ _ | refine blk_drew ?_ | refine blk_alloc ?_ _)); exact BK159.out) : P := h
theorem zb18 {P : Prop} (h : P := by (with_reducible repeat (first | refine blk_drewN ?_ _ | refine blk_drew ?_ | refine blk_alloc ?_ _)); refine blk_put (cs := #[.string ((rd_T50 l0_2 x41_1).f0), .string (⟨#[]⟩ : ByteArray)]) ?_ 1 _ rfl; (with_reducible repeat (first | refine blk_drewN ?_ _ | refine blk_drew ?_ | refine blk_alloc ?_ _)); refine blk_put (cs := #[.string (⟨#[]⟩ : ByteArray), .string (⟨#[]⟩ : ByteArray)]) ?_ 0 _ rfl; (with_reducible repeat (first | refine blk_drewN ?_ _ | refine blk_drew ?_ | refine blk_alloc ?_ _)); exact BK162.out) : P := h
theorem zb19 {P : Prop} (h : P := by (with_reducible repeat (first | apply Kd.V_alloc | apply Kd.V_drewN | apply Kd.V_drew)); exact (Kd.V_mono (Kd.V_far (p := ⟨gb162, 4, none⟩) (Kd.V_far (p := ⟨gb162, 3, none⟩) (Kd.V_far (p := ⟨gb162, 2, none⟩) (Kd.V_far (p := ⟨gb162, 1, none⟩) (Kd.V_far (p := ⟨gb162, 0, none⟩) (Kd.V_mono HO_161002.out (fun k_ hk => (⟨hk, hk.2⟩ : _ ∧ k_ ≠ gb162))) (fun _ hk => hk.2) (.string ((rd_T66 l0 x11_1).f0.f0))) (fun _ hk => hk.2) (.string ((rd_T66 l0 x11_1).f0.f1))) (fun _ hk => hk.2) (.slice A161_2 ((rd_T66 l0 x11_1).f0.f2).length c161_2)) (fun _ hk => hk.2) (.float .f64 ((rd_T66 l0 x11_1).f1))) (fun _ hk => hk.2) (.int .i64 ((rd_T66 l0 x11_1).f2))) (fun _ h_ => h_.1))) : P := h
theorem zb20 {P : Prop} (h : P := by (with_reducible repeat (first | apply Kd.V_alloc | apply Kd.V_drewN | apply Kd.V_drew)); exact (Kd.V_mono (Kd.V_far (p := ⟨gb162, 4, none⟩) (Kd.V_far (p := ⟨gb162, 3, none⟩) (Kd.V_far (p := ⟨gb162, 2, none⟩) (Kd.V_far (p := ⟨gb162, 1, none⟩) (Kd.V_far (p := ⟨gb162, 0, none⟩) (Kd.V_mono HO_9.out (fun k_ hk => (⟨hk, hk.2⟩ : _ ∧ k_ ≠ gb162))) (fun _ hk => hk.2) (.string ((rd_T66 l0 x11_1).f0.f0))) (fun _ hk => hk.2) (.string ((rd_T66 l0 x11_1).f0.f1))) (fun _ hk => hk.2) (.slice A161_2 ((rd_T66 l0 x11_1).f0.f2).length c161_2)) (fun _ hk => hk.2) (.float .f64 ((rd_T66 l0 x11_1).f1))) (fun _ hk => hk.2) (.int .i64 ((rd_T66 l0 x11_1).f2))) (fun _ h_ => h_.1))) : P := h
theorem zb21 {P : Prop} (h : P := by (with_reducible repeat (first | refine blk_drewN ?_ _ | refine blk_drew ?_ | refine blk_alloc ?_ _)); refine blk_far ?_ NB160_162.out _; (with_reducible repeat (first | refine blk_drewN ?_ _ | refine blk_drew ?_ | refine blk_alloc ?_ _)); refine blk_far ?_ NB160_162.out _; (with_reducible repeat (first | refine blk_drewN ?_ _ | refine blk_drew ?_ | refine blk_alloc ?_ _)); exact BK160.out) : P := h
theorem zb22 {P : Prop} (h : P := by (with_reducible repeat (first | refine blk_drewN ?_ _ | refine blk_drew ?_ | refine blk_alloc ?_ _)); refine blk_far ?_ NB159_162.out _; (with_reducible repeat (first | refine blk_drewN ?_ _ | refine blk_drew ?_ | refine blk_alloc ?_ _)); refine blk_far ?_ NB159_162.out _; (with_reducible repeat (first | refine blk_drewN ?_ _ | refine blk_drew ?_ | refine blk_alloc ?_ _)); exact BK159.out) : P := h
theorem zb23 {P : Prop} (h : P := by repeat (first | (with_reducible first | exact HB.out | apply below_alloc | apply pw_below_drewN | apply below_drew1 | refine below_set ?_ GE140.out) | exact HB.out)) : P := h
theorem zb24 {P : Prop} (h : P := by (with_reducible repeat (first | apply Kd.V_alloc | apply Kd.V_drewN | apply Kd.V_drew)); exact HO184.out) : P := h
theorem zb25 {P : Prop} (h : P := by (with_reducible repeat (first | apply Kd.N_alloc | apply Kd.N_drewN | apply Kd.N_drew)); exact HO179.out) : P := h
theorem zb26 {P : Prop} (h : P := by (with_reducible repeat (first | apply Kd.R_alloc | apply Kd.R_drewN | apply Kd.R_drew)); exact HO_5.out) : P := h
theorem zb27 {P : Prop} (h : P := by (with_reducible repeat (first | refine blk_drewN ?_ _ | refine blk_drew ?_ | refine blk_alloc ?_ _)); exact BK246.out) : P := h
theorem zb28 {P : Prop} (h : P := by repeat (first | (with_reducible first | exact HB.out | apply below_alloc | apply pw_below_drewN | apply below_drew1 | refine below_set ?_ GE231.out) | exact HB.out)) : P := h
theorem zb29 {P : Prop} (h : P := by repeat (first | (with_reducible first | exact HB.out | apply below_alloc | apply pw_below_drewN | apply below_drew1 | refine below_set ?_ GE156.out) | exact HB.out)) : P := h
theorem zb30 {P : Prop} (h : P := by (with_reducible repeat (first | refine blk_drewN ?_ _ | refine blk_drew ?_ | refine blk_alloc ?_ _)); exact BK140.out) : P := h
theorem zb31 {P : Prop} (h : P := by (with_reducible repeat (first | apply Kd.N_alloc | apply Kd.N_drewN | apply Kd.N_drew)); exact HO284.out) : P := h
theorem zb32 {P : Prop} (h : P := by (with_reducible repeat (first | apply Kd.R_alloc | apply Kd.R_drewN | apply Kd.R_drew)); exact HO_2.out) : P := h
theorem zb33 {P : Prop} (h : P := by repeat (first | (with_reducible first | exact HB.out | apply below_alloc | apply pw_below_drewN | apply below_drew1 | refine below_set ?_ GE159.out) | exact HB.out)) : P := h
theorem zb34 {P : Prop} (h : P := by rw [hw]; exact (by (with_reducible repeat (first | refine blk_drewN ?_ _ | refine blk_drew ?_ | refine blk_alloc ?_ _)); refine blk_put (cs := #[.string ((rd_T40 l1 x14_1).f0), .string ((rd_T40 l1 x14_1).f1), .slice none 0 0]) ?_ 2 _ rfl; (with_reducible repeat (first | refine blk_drewN ?_ _ | refine blk_drew ?_ | refine blk_alloc ?_ _)); refine blk_put (cs := #[.string ((rd_T40 l1 x14_1).f0), .string (⟨#[]⟩ : ByteArray), .slice none 0 0]) ?_ 1 _ rfl; (with_reducible repeat (first | refine blk_drewN ?_ _ | refine blk_drew ?_ | refine blk_alloc ?_ _)); refine blk_put (cs := #[.string (⟨#[]⟩ : ByteArray), .string (⟨#[]⟩ : ByteArray), .slice none 0 0]) ?_ 0 _ rfl; (with_reducible repeat (first | refine blk_drewN ?_ _ | refine blk_drew ?_ | refine blk_alloc ?_ _)); exact BK169.out)) : P := h
theorem zb35 {P : Prop} (h : P := by (with_reducible repeat (first | refine blk_drewN ?_ _ | refine blk_drew ?_ | refine blk_alloc ?_ _)); refine blk_put (cs := #[.string (⟨#[]⟩ : ByteArray), .string (⟨#[]⟩ : ByteArray), .slice none 0 0]) ?_ 2 _ rfl; (with_reducible repeat (first | refine blk_drewN ?_ _ | refine blk_drew ?_ | refine blk_alloc ?_ _)); refine blk_put (cs := #[.string (⟨#[]⟩ : ByteArray), .string (⟨#[]⟩ : ByteArray), .slice none 0 0]) ?_ 1 _ rfl; (with_reducible repeat (first | refine blk_drewN ?_ _ | refine blk_drew ?_ | refine blk_alloc ?_ _)); refine blk_put (cs := #[.string (⟨#[]⟩ : ByteArray), .string (⟨#[]⟩ : ByteArray), .slice none 0 0]) ?_ 0 _ rfl; (with_reducible repeat (first | refine blk_drewN ?_ _ | refine blk_drew ?_ | refine blk_alloc ?_ _)); exact BK231.out) : P := h
theorem zb36 {P : Prop} (h : P := by (with_reducible repeat (first | refine blk_drewN ?_ _ | refine blk_drew ?_ | refine blk_alloc ?_ _)); exact BK247.out) : P := h
theorem zb37 {P : Prop} (h : P := by (with_reducible repeat (first | refine blk_drewN ?_ _ | refine blk_drew ?_ | refine blk_alloc ?_ _)); exact BK156.out) : P := h
theorem zb38 {P : Prop} (h : P := by repeat (first | (with_reducible first | exact HB.out | apply below_alloc | apply pw_below_drewN | apply below_drew1 | refine below_set ?_ (IsS85.ge HI0.out)) | exact HB.out)) : P := h
theorem zb39 {P : Prop} (h : P := by (with_reducible repeat (first | apply Kd.S_alloc | apply Kd.S_drewN | apply Kd.S_drew)); exact HO_6.out) : P := h
theorem zb40 {P : Prop} (h : P := by repeat (first | (with_reducible first | exact HB.out | apply below_alloc | apply pw_below_drewN | apply below_drew1 | refine below_set ?_ GE255.out) | exact HB.out)) : P := h
theorem zb41 {P : Prop} (h : P := by repeat (first | (with_reducible first | exact HB.out | apply below_alloc | apply pw_below_drewN | apply below_drew1 | refine below_set ?_ GE169.out) | exact HB.out)) : P := h
theorem zb42 {P : Prop} (h : P := by omega) : P := h
theorem zb43 {P : Prop} (h : P := by rw [hw]; exact (by (with_reducible repeat (first | apply Kd.S_alloc | apply Kd.S_drewN | apply Kd.S_drew)); exact Kd.S_mono (Kd.S_far (p := ⟨gb169, 2, none⟩) (Kd.S_far (p := ⟨gb169, 1, none⟩) (Kd.S_far (p := ⟨gb169, 0, none⟩) (Kd.S_types HO_6.out BK169.out (by decide)) (fun _ hk => hk.2) (.string ((rd_T40 l1 x14_1).f0))) (fun _ hk => hk.2) (.string ((rd_T40 l1 x14_1).f1))) (fun _ hk => hk.2) (.slice A168_2 ((rd_T40 l1 x14_1).f2).length c168_2)) (fun _ hk => trivial))) : P := h
theorem zb44 {P : Prop} (h : P := by repeat (first | (with_reducible first | exact HI0.out | apply IsS85.alloc | apply IsS85.drewN | apply IsS85.drew | apply IsS85.set_0) | exact HI0.out)) : P := h
theorem zb45 {P : Prop} (h : P := by simp) : P := h
theorem zb46 {P : Prop} (h : P := by repeat (first | (with_reducible exact HR161_2.out) | (with_reducible refine Kd.C_alloc ?_ _) | (with_reducible refine Kd.C_drewN ?_ _) | (with_reducible refine Kd.C_drew ?_) | exact HR161_2.out)) : P := h
theorem zb47 {P : Prop} (h : P := by decide) : P := h
theorem zb48 {P : Prop} (h : P := by (with_reducible repeat (first | refine blk_drewN ?_ _ | refine blk_drew ?_ | refine blk_alloc ?_ _)); exact BK162.out) : P := h
theorem zb49 {P : Prop} (h : P := by repeat (first | (with_reducible first | exact HB.out | apply below_alloc | apply pw_below_drewN | apply below_drew1 | refine below_set ?_ GE246.out) | exact HB.out)) : P := h
theorem zb50 {P : Prop} (h : P := by (with_reducible repeat (first | apply Kd.R_alloc | apply Kd.R_drewN | apply Kd.R_drew)); exact HO_4.out) : P := h
theorem zb51 {P : Prop} (h : P := by (with_reducible repeat (first | apply Kd.R_alloc | apply Kd.R_drewN | apply Kd.R_drew)); exact HO_3.out) : P := h
theorem zb52 {P : Prop} (h : P := by (with_reducible repeat (first | refine blk_drewN ?_ _ | refine blk_drew ?_ | refine blk_alloc ?_ _)); exact BK255.out) : P := h
theorem zb53 {P : Prop} (h : P := by (with_reducible repeat (first | refine blk_drewN ?_ _ | refine blk_drew ?_ | refine blk_alloc ?_ _)); exact BK231.out) : P := h
end Go.Proofs.YtghfbhobpodoeaaGreatDoor
/- Shelf -/
namespace Go.Proofs
open Go.Shelf
def Tryz.lays169_ren : Go.Shelf.Ren := ⟨fun | 169 => 95 | n => n, fun | 70 => 132 | 9 => 9 | 0 => 0 | 72 => 134 | 37 => 31 | 127 => 127 | 3 => 3 | 5 => 5 | n => n, fun | n => n⟩
theorem Tryz.lays169 : Go.Proofs.Lays.n169 Tryz.prog Tryz.lays169_ren := {
  mixed := by kernel_rfl
  f169 := Tryz.func95.trans (congrArg some (by kernel_rfl))
  t0 := Tryz.underlying0
  a0 := Tryz.isAgg0
  z0 := Tryz.sizeOf0
  v0 := Tryz.zeroValue0
  t3 := Tryz.underlying3
  a3 := Tryz.isAgg3
  z3 := Tryz.sizeOf3
  v3 := Tryz.zeroValue3
  t9 := Tryz.underlying9
  a9 := Tryz.isAgg9
  z9 := Tryz.sizeOf9
  v9 := Tryz.zeroValue9
  t37 := Tryz.underlying31
  a37 := Tryz.isAgg31
  z37 := Tryz.sizeOf31
  v37 := Tryz.zeroValue31
  t70 := Tryz.underlying132
  a70 := Tryz.isAgg132
  z70 := Tryz.sizeOf132
  v70 := Tryz.zeroValue132
  t72 := Tryz.underlying134
  a72 := Tryz.isAgg134
  z72 := Tryz.sizeOf134
  v72 := Tryz.zeroValue134
  t127 := Tryz.underlying127
  a127 := Tryz.isAgg127
  z127 := Tryz.sizeOf127
  v127 := Tryz.zeroValue127 }
theorem Tryz.Builder_Extra_169 : Builder.Extra Tryz.prog Tryz.lays169_ren := {
  sizeBuilder := by kernel_rfl
  liesBuilder := by kernel_rfl
  t5 := Tryz.underlying5
  a5 := Tryz.isAgg5
  z5 := Tryz.sizeOf5
  v5 := Tryz.zeroValue5
  infoByte := by kernel_rfl
  cellsByte := by kernel_rfl
  sizeByte := by kernel_rfl
  neB5 := by decide }
def Tryz.lays161_ren : Go.Shelf.Ren := ⟨fun | 161 => 69 | 231 => 39 | 227 => 41 | 233 => 42 | 235 => 44 | 228 => 58 | 197 => 59 | 151 => 60 | 260 => 74 | 152 => 75 | 137 => 70 | 119 => 88 | 224 => 79 | 225 => 78 | 217 => 77 | 266 => 89 | n => n, fun | 9 => 9 | 4 => 4 | 3 => 3 | 5 => 5 | 117 => 77 | 116 => 76 | 0 => 0 | 124 => 80 | 105 => 94 | 21 => 21 | 119 => 118 | 46 => 111 | 139 => 121 | 138 => 120 | n => n, fun | 3 => 4 | 4 => 5 | n => n⟩
theorem Tryz.lays161 : Go.Proofs.Lays.n161 Tryz.prog Tryz.lays161_ren := {
  mixed := by kernel_rfl
  f119 := Tryz.func88.trans (congrArg some (by kernel_rfl))
  f137 := Tryz.func70.trans (congrArg some (by kernel_rfl))
  f151 := Tryz.func60.trans (congrArg some (by kernel_rfl))
  f152 := Tryz.func75.trans (congrArg some (by kernel_rfl))
  f161 := Tryz.func69.trans (congrArg some (by kernel_rfl))
  f197 := Tryz.func59.trans (congrArg some (by kernel_rfl))
  f217 := Tryz.func77.trans (congrArg some (by kernel_rfl))
  f224 := Tryz.func79.trans (congrArg some (by kernel_rfl))
  f225 := Tryz.func78.trans (congrArg some (by kernel_rfl))
  f227 := Tryz.func41.trans (congrArg some (by kernel_rfl))
  f228 := Tryz.func58.trans (congrArg some (by kernel_rfl))
  f231 := Tryz.func39.trans (congrArg some (by kernel_rfl))
  f233 := Tryz.func42.trans (congrArg some (by kernel_rfl))
  f235 := Tryz.func44.trans (congrArg some (by kernel_rfl))
  f260 := Tryz.func74.trans (congrArg some (by kernel_rfl))
  f266 := Tryz.func89.trans (congrArg some (by kernel_rfl))
  t0 := Tryz.underlying0
  a0 := Tryz.isAgg0
  z0 := Tryz.sizeOf0
  v0 := Tryz.zeroValue0
  t3 := Tryz.underlying3
  a3 := Tryz.isAgg3
  z3 := Tryz.sizeOf3
  v3 := Tryz.zeroValue3
  t4 := Tryz.underlying4
  a4 := Tryz.isAgg4
  z4 := Tryz.sizeOf4
  v4 := Tryz.zeroValue4
  t5 := Tryz.underlying5
  a5 := Tryz.isAgg5
  z5 := Tryz.sizeOf5
  v5 := Tryz.zeroValue5
  t9 := Tryz.underlying9
  a9 := Tryz.isAgg9
  z9 := Tryz.sizeOf9
  v9 := Tryz.zeroValue9
  t21 := Tryz.underlying21
  a21 := Tryz.isAgg21
  z21 := Tryz.sizeOf21
  v21 := Tryz.zeroValue21
  t46 := Tryz.underlying111
  a46 := Tryz.isAgg111
  z46 := Tryz.sizeOf111
  v46 := Tryz.zeroValue111
  t105 := Tryz.underlying94
  a105 := Tryz.isAgg94
  z105 := Tryz.sizeOf94
  v105 := Tryz.zeroValue94
  t116 := Tryz.underlying76
  a116 := Tryz.isAgg76
  z116 := Tryz.sizeOf76
  t117 := Tryz.underlying77
  a117 := Tryz.isAgg77
  z117 := Tryz.sizeOf77
  v117 := Tryz.zeroValue77
  t119 := Tryz.underlying118
  a119 := Tryz.isAgg118
  z119 := Tryz.sizeOf118
  t124 := Tryz.underlying80
  a124 := Tryz.isAgg80
  z124 := Tryz.sizeOf80
  v124 := Tryz.zeroValue80
  t138 := Tryz.underlying120
  a138 := Tryz.isAgg120
  z138 := Tryz.sizeOf120
  v138 := Tryz.zeroValue120
  t139 := Tryz.underlying121
  a139 := Tryz.isAgg121
  z139 := Tryz.sizeOf121
  v139 := Tryz.zeroValue121
  g3 := by kernel_rfl
  g4 := by kernel_rfl }
def Tryz.lays160_ren : Go.Shelf.Ren := ⟨fun | 160 => 24 | 232 => 40 | 231 => 39 | 227 => 41 | 234 => 43 | 233 => 42 | 236 => 45 | 235 => 44 | 228 => 58 | 271 => 61 | 151 => 60 | 197 => 59 | 120 => 76 | 152 => 75 | 260 => 74 | 137 => 70 | 119 => 88 | 224 => 79 | 225 => 78 | 217 => 77 | 266 => 89 | n => n, fun | 9 => 9 | 4 => 4 | 3 => 3 | 5 => 5 | 117 => 77 | 116 => 76 | 0 => 0 | 124 => 80 | 21 => 21 | 105 => 94 | 46 => 111 | 119 => 118 | 139 => 121 | 138 => 120 | n => n, fun | 3 => 4 | 4 => 5 | n => n⟩
theorem Tryz.lays160 : Go.Proofs.Lays.n160 Tryz.prog Tryz.lays160_ren := {
  mixed := by kernel_rfl
  f119 := Tryz.func88.trans (congrArg some (by kernel_rfl))
  f120 := Tryz.func76.trans (congrArg some (by kernel_rfl))
  f137 := Tryz.func70.trans (congrArg some (by kernel_rfl))
  f151 := Tryz.func60.trans (congrArg some (by kernel_rfl))
  f152 := Tryz.func75.trans (congrArg some (by kernel_rfl))
  f160 := Tryz.func24.trans (congrArg some (by kernel_rfl))
  f197 := Tryz.func59.trans (congrArg some (by kernel_rfl))
  f217 := Tryz.func77.trans (congrArg some (by kernel_rfl))
  f224 := Tryz.func79.trans (congrArg some (by kernel_rfl))
  f225 := Tryz.func78.trans (congrArg some (by kernel_rfl))
  f227 := Tryz.func41.trans (congrArg some (by kernel_rfl))
  f228 := Tryz.func58.trans (congrArg some (by kernel_rfl))
  f231 := Tryz.func39.trans (congrArg some (by kernel_rfl))
  f232 := Tryz.func40.trans (congrArg some (by kernel_rfl))
  f233 := Tryz.func42.trans (congrArg some (by kernel_rfl))
  f234 := Tryz.func43.trans (congrArg some (by kernel_rfl))
  f235 := Tryz.func44.trans (congrArg some (by kernel_rfl))
  f236 := Tryz.func45.trans (congrArg some (by kernel_rfl))
  f260 := Tryz.func74.trans (congrArg some (by kernel_rfl))
  f266 := Tryz.func89.trans (congrArg some (by kernel_rfl))
  f271 := Tryz.func61.trans (congrArg some (by kernel_rfl))
  t0 := Tryz.underlying0
  a0 := Tryz.isAgg0
  z0 := Tryz.sizeOf0
  v0 := Tryz.zeroValue0
  t3 := Tryz.underlying3
  a3 := Tryz.isAgg3
  z3 := Tryz.sizeOf3
  v3 := Tryz.zeroValue3
  t4 := Tryz.underlying4
  a4 := Tryz.isAgg4
  z4 := Tryz.sizeOf4
  v4 := Tryz.zeroValue4
  t5 := Tryz.underlying5
  a5 := Tryz.isAgg5
  z5 := Tryz.sizeOf5
  v5 := Tryz.zeroValue5
  t9 := Tryz.underlying9
  a9 := Tryz.isAgg9
  z9 := Tryz.sizeOf9
  v9 := Tryz.zeroValue9
  t21 := Tryz.underlying21
  a21 := Tryz.isAgg21
  z21 := Tryz.sizeOf21
  v21 := Tryz.zeroValue21
  t46 := Tryz.underlying111
  a46 := Tryz.isAgg111
  z46 := Tryz.sizeOf111
  v46 := Tryz.zeroValue111
  t105 := Tryz.underlying94
  a105 := Tryz.isAgg94
  z105 := Tryz.sizeOf94
  v105 := Tryz.zeroValue94
  t116 := Tryz.underlying76
  a116 := Tryz.isAgg76
  z116 := Tryz.sizeOf76
  t117 := Tryz.underlying77
  a117 := Tryz.isAgg77
  z117 := Tryz.sizeOf77
  v117 := Tryz.zeroValue77
  t119 := Tryz.underlying118
  a119 := Tryz.isAgg118
  z119 := Tryz.sizeOf118
  t124 := Tryz.underlying80
  a124 := Tryz.isAgg80
  z124 := Tryz.sizeOf80
  v124 := Tryz.zeroValue80
  t138 := Tryz.underlying120
  a138 := Tryz.isAgg120
  z138 := Tryz.sizeOf120
  v138 := Tryz.zeroValue120
  t139 := Tryz.underlying121
  a139 := Tryz.isAgg121
  z139 := Tryz.sizeOf121
  v139 := Tryz.zeroValue121
  g3 := by kernel_rfl
  g4 := by kernel_rfl }
def Tryz.lays137_ren : Go.Shelf.Ren := ⟨fun | 137 => 70 | 217 => 77 | 266 => 89 | n => n, fun | 9 => 9 | 5 => 5 | 3 => 3 | n => n, fun | n => n⟩
theorem Tryz.lays137 : Go.Proofs.Lays.n137 Tryz.prog Tryz.lays137_ren := {
  mixed := by kernel_rfl
  f137 := Tryz.func70.trans (congrArg some (by kernel_rfl))
  f217 := Tryz.func77.trans (congrArg some (by kernel_rfl))
  f266 := Tryz.func89.trans (congrArg some (by kernel_rfl))
  t3 := Tryz.underlying3
  a3 := Tryz.isAgg3
  z3 := Tryz.sizeOf3
  v3 := Tryz.zeroValue3
  t5 := Tryz.underlying5
  a5 := Tryz.isAgg5
  z5 := Tryz.sizeOf5
  v5 := Tryz.zeroValue5
  t9 := Tryz.underlying9
  a9 := Tryz.isAgg9
  z9 := Tryz.sizeOf9
  v9 := Tryz.zeroValue9 }
open Go.RowKit in
theorem Tryz.strings_IndexByte (s : ByteArray) (c : Int) (w : World) :
    Calls Tryz.prog 70 #[.string s, .int .u8 c] w fun e w' => e = .returned (.int .i64 (Lib.indexByte s.data.toList c.toNat.toUInt8)) ∧ w' = w := Any.strings_IndexByte Tryz.lays137 s c w
open Go.RowKit in
theorem Tryz.Builder_String_any_k (B b : Nat) (l : List UInt8) (w : World) (h : Lib.IsBuilderF 134 5 B b (Lib.byteCells l) w) (hBw : B ≤ w.heap.size) :
    Calls Tryz.prog 95 #[.pointer (some ⟨b, 0, none⟩)] w fun e w' => e = .returned (.string ⟨l.toArray⟩) ∧ (Lib.IsBuilderF 134 5 B b (Lib.byteCells l) w' ∧ Below B w w' ∧ Lib.OthersKept 5 (some b) w w') := Any.Builder_String_any_k Tryz.lays169 Tryz.Builder_Extra_169 B b l w h hBw
def Tryz.laysC172_ren : Go.Shelf.Ren := ⟨fun | 172 => 29 | 244 => 49 | 245 => 50 | 247 => 64 | 279 => 65 | 280 => 66 | 281 => 67 | 282 => 68 | 287 => 81 | 316 => 82 | 171 => 84 | 205 => 83 | 321 => 91 | 322 => 92 | 243 => 93 | 246 => 97 | 283 => 99 | 284 => 100 | 285 => 101 | 286 => 102 | 129 => 105 | 317 => 104 | 318 => 106 | 319 => 107 | 320 => 108 | 337 => 109 | 338 => 110 | n => n, fun | 9 => 9 | 3 => 3 | 75 => 59 | 76 => 60 | 4 => 4 | 5 => 5 | 167 => 98 | 37 => 31 | 0 => 0 | 85 => 99 | 2 => 2 | 168 => 101 | 53 => 72 | 175 => 112 | 46 => 111 | 210 => 115 | 127 => 127 | 145 => 130 | 143 => 128 | 21 => 21 | 171 => 137 | 173 => 140 | 212 => 145 | 51 => 123 | 20 => 20 | 213 => 146 | 232 => 150 | 233 => 151 | 80 => 86 | n => n, fun | 15 => 2 | 16 => 3 | 17 => 6 | 18 => 7 | 19 => 8 | n => n⟩
theorem Tryz.laysC172 : Go.Proofs.LaysC.n172 Tryz.prog Tryz.laysC172_ren := {
  mixed := by kernel_rfl
  f129 := Tryz.func105.trans (congrArg some (by kernel_rfl))
  f171 := Tryz.func84.trans (congrArg some (by kernel_rfl))
  f172 := Tryz.func29.trans (congrArg some (by kernel_rfl))
  f205 := Tryz.func83.trans (congrArg some (by kernel_rfl))
  f243 := Tryz.func93.trans (congrArg some (by kernel_rfl))
  f244 := Tryz.func49.trans (congrArg some (by kernel_rfl))
  f245 := Tryz.func50.trans (congrArg some (by kernel_rfl))
  f246 := Tryz.func97.trans (congrArg some (by kernel_rfl))
  f247 := Tryz.func64.trans (congrArg some (by kernel_rfl))
  f279 := Tryz.func65.trans (congrArg some (by kernel_rfl))
  f280 := Tryz.func66.trans (congrArg some (by kernel_rfl))
  f281 := Tryz.func67.trans (congrArg some (by kernel_rfl))
  f282 := Tryz.func68.trans (congrArg some (by kernel_rfl))
  f283 := Tryz.func99.trans (congrArg some (by kernel_rfl))
  f284 := Tryz.func100.trans (congrArg some (by kernel_rfl))
  f285 := Tryz.func101.trans (congrArg some (by kernel_rfl))
  f286 := Tryz.func102.trans (congrArg some (by kernel_rfl))
  f287 := Tryz.func81.trans (congrArg some (by kernel_rfl))
  f316 := Tryz.func82.trans (congrArg some (by kernel_rfl))
  f317 := Tryz.func104.trans (congrArg some (by kernel_rfl))
  f318 := Tryz.func106.trans (congrArg some (by kernel_rfl))
  f319 := Tryz.func107.trans (congrArg some (by kernel_rfl))
  f320 := Tryz.func108.trans (congrArg some (by kernel_rfl))
  f321 := Tryz.func91.trans (congrArg some (by kernel_rfl))
  f322 := Tryz.func92.trans (congrArg some (by kernel_rfl))
  f337 := Tryz.func109.trans (congrArg some (by kernel_rfl))
  f338 := Tryz.func110.trans (congrArg some (by kernel_rfl))
  t0 := Tryz.underlying0
  a0 := Tryz.isAgg0
  z0 := Tryz.sizeOf0
  v0 := Tryz.zeroValue0
  t2 := Tryz.underlying2
  a2 := Tryz.isAgg2
  z2 := Tryz.sizeOf2
  v2 := Tryz.zeroValue2
  t3 := Tryz.underlying3
  a3 := Tryz.isAgg3
  z3 := Tryz.sizeOf3
  v3 := Tryz.zeroValue3
  t4 := Tryz.underlying4
  a4 := Tryz.isAgg4
  z4 := Tryz.sizeOf4
  v4 := Tryz.zeroValue4
  t5 := Tryz.underlying5
  a5 := Tryz.isAgg5
  z5 := Tryz.sizeOf5
  v5 := Tryz.zeroValue5
  t9 := Tryz.underlying9
  a9 := Tryz.isAgg9
  z9 := Tryz.sizeOf9
  v9 := Tryz.zeroValue9
  t20 := Tryz.underlying20
  a20 := Tryz.isAgg20
  z20 := Tryz.sizeOf20
  v20 := Tryz.zeroValue20
  t21 := Tryz.underlying21
  a21 := Tryz.isAgg21
  z21 := Tryz.sizeOf21
  v21 := Tryz.zeroValue21
  t37 := Tryz.underlying31
  a37 := Tryz.isAgg31
  z37 := Tryz.sizeOf31
  v37 := Tryz.zeroValue31
  t46 := Tryz.underlying111
  a46 := Tryz.isAgg111
  z46 := Tryz.sizeOf111
  v46 := Tryz.zeroValue111
  t51 := Tryz.underlying123
  a51 := Tryz.isAgg123
  z51 := Tryz.sizeOf123
  v51 := Tryz.zeroValue123
  t53 := Tryz.underlying72
  a53 := Tryz.isAgg72
  z53 := Tryz.sizeOf72
  v53 := Tryz.zeroValue72
  t75 := Tryz.underlying59
  a75 := Tryz.isAgg59
  z75 := Tryz.sizeOf59
  v75 := Tryz.zeroValue59
  t76 := Tryz.underlying60
  a76 := Tryz.isAgg60
  z76 := Tryz.sizeOf60
  v76 := Tryz.zeroValue60
  t85 := Tryz.underlying99
  a85 := Tryz.isAgg99
  z85 := Tryz.sizeOf99
  v85 := Tryz.zeroValue99
  t127 := Tryz.underlying127
  a127 := Tryz.isAgg127
  z127 := Tryz.sizeOf127
  v127 := Tryz.zeroValue127
  t143 := Tryz.underlying128
  a143 := Tryz.isAgg128
  z143 := Tryz.sizeOf128
  v143 := Tryz.zeroValue128
  t145 := Tryz.underlying130
  a145 := Tryz.isAgg130
  z145 := Tryz.sizeOf130
  v145 := Tryz.zeroValue130
  t167 := Tryz.underlying98
  a167 := Tryz.isAgg98
  z167 := Tryz.sizeOf98
  v167 := Tryz.zeroValue98
  t168 := Tryz.underlying101
  a168 := Tryz.isAgg101
  z168 := Tryz.sizeOf101
  v168 := Tryz.zeroValue101
  t171 := Tryz.underlying137
  a171 := Tryz.isAgg137
  z171 := Tryz.sizeOf137
  v171 := Tryz.zeroValue137
  t173 := Tryz.underlying140
  a173 := Tryz.isAgg140
  z173 := Tryz.sizeOf140
  v173 := Tryz.zeroValue140
  t175 := Tryz.underlying112
  a175 := Tryz.isAgg112
  z175 := Tryz.sizeOf112
  v175 := Tryz.zeroValue112
  t210 := Tryz.underlying115
  a210 := Tryz.isAgg115
  z210 := Tryz.sizeOf115
  v210 := Tryz.zeroValue115
  t212 := Tryz.underlying145
  a212 := Tryz.isAgg145
  z212 := Tryz.sizeOf145
  v212 := Tryz.zeroValue145
  t213 := Tryz.underlying146
  a213 := Tryz.isAgg146
  z213 := Tryz.sizeOf146
  t232 := Tryz.underlying150
  a232 := Tryz.isAgg150
  z232 := Tryz.sizeOf150
  v232 := Tryz.zeroValue150
  t233 := Tryz.underlying151
  a233 := Tryz.isAgg151
  z233 := Tryz.sizeOf151
  v233 := Tryz.zeroValue151
  g15 := by kernel_rfl
  g16 := by kernel_rfl
  g17 := by kernel_rfl
  g18 := by kernel_rfl
  g19 := by kernel_rfl
  t80 := Tryz.underlying86
  a80 := Tryz.isAgg86
  z80 := Tryz.sizeOf86
  v80 := Tryz.zeroValue86
  i0 := by kernel_rfl
  i2 := by kernel_rfl
  i3 := by kernel_rfl
  i4 := by kernel_rfl
  i5 := by kernel_rfl
  i9 := by kernel_rfl
  i20 := by kernel_rfl
  i21 := by kernel_rfl
  i37 := by kernel_rfl
  i46 := by kernel_rfl
  i51 := by kernel_rfl
  i53 := by kernel_rfl
  i75 := by kernel_rfl
  i76 := by kernel_rfl
  i80 := by kernel_rfl
  i85 := by kernel_rfl
  i127 := by kernel_rfl
  i143 := by kernel_rfl
  i145 := by kernel_rfl
  i167 := by kernel_rfl
  i168 := by kernel_rfl
  i171 := by kernel_rfl
  i173 := by kernel_rfl
  i175 := by kernel_rfl
  i210 := by kernel_rfl
  i212 := by kernel_rfl
  i232 := by kernel_rfl
  i233 := by kernel_rfl
  m15 := by kernel_rfl
  m16 := by kernel_rfl
  m17 := by kernel_rfl
  m18 := by kernel_rfl
  m19 := by kernel_rfl
  c0 := by kernel_rfl
  c2 := by kernel_rfl
  c3 := by kernel_rfl
  c4 := by kernel_rfl
  c5 := by kernel_rfl
  c9 := by kernel_rfl
  c20 := by kernel_rfl
  c21 := by kernel_rfl
  c37 := by kernel_rfl
  c46 := by kernel_rfl
  c51 := by kernel_rfl
  c53 := by kernel_rfl
  c75 := by kernel_rfl
  c76 := by kernel_rfl
  c80 := by kernel_rfl
  c85 := by kernel_rfl
  c127 := by kernel_rfl
  c143 := by kernel_rfl
  c145 := by kernel_rfl
  c167 := by kernel_rfl
  c168 := by kernel_rfl
  c171 := by kernel_rfl
  c173 := by kernel_rfl
  c175 := by kernel_rfl
  c210 := by kernel_rfl
  c212 := by kernel_rfl
  c213 := by kernel_rfl
  c232 := by kernel_rfl
  c233 := by kernel_rfl }
open Go.RowKit in
theorem Tryz.strconv_Atoi_ok (s : ByteArray) (hmax : s.size ≤ 9223372036854775806) (v : Int) (h : Lib.atoiAll s.data.toList = .ok v) (w : World) :
    Calls Tryz.prog 29 #[.string s] w fun e w' => e = .returned (.tuple #[.int .i64 v, .nilIface]) ∧ (w' = w ∨ ∃ t, w' = Lib.bytesWorld w 5 t) := Any.strconv_Atoi_ok Tryz.laysC172 s hmax v h w
open Go.RowKit in
theorem Tryz.strconv_Atoi_syntax_var (s : ByteArray) (hlim : s.size ≤ 281474976710656) (h : Lib.atoiAll s.data.toList = Go.Lib.NumEnd.syntax) (tp : TypeId) (p : Value) (w : World) (hvar : w.var? Tryz.prog "strconv.ErrSyntax" = some #[.iface tp p]) :
    Calls Tryz.prog 29 #[.string s] w fun e w' => ∃ N, e = .returned (.tuple #[.int .i64 0, .iface 101 (.pointer (some ⟨N, 0, none⟩))]) ∧ w.heap.size ≤ N ∧ w'.heap[N]? = some (.cells #[.string ⟨#[65, 116, 111, 105]⟩, .string s, .iface tp p] 115 (0, 0)) ∧ Below w.heap.size w w' := Any.strconv_Atoi_syntax_var Tryz.laysC172 s hlim h tp p w hvar
open Go.RowKit in
theorem Tryz.strconv_Atoi_range_var (s : ByteArray) (hlim : s.size ≤ 281474976710656) (h : Lib.atoiAll s.data.toList = .range) (tp : TypeId) (p : Value) (w : World) (hvar : w.var? Tryz.prog "strconv.ErrRange" = some #[.iface tp p]) :
    Calls Tryz.prog 29 #[.string s] w fun e w' => ∃ N, e = .returned (.tuple #[.int .i64 (Lib.atoiSat s.data.toList), .iface 101 (.pointer (some ⟨N, 0, none⟩))]) ∧ w.heap.size ≤ N ∧ w'.heap[N]? = some (.cells #[.string ⟨#[65, 116, 111, 105]⟩, .string s, .iface tp p] 115 (0, 0)) ∧ Below w.heap.size w w' := Any.strconv_Atoi_range_var Tryz.laysC172 s hlim h tp p w hvar
def Tryz.lays145_ren : Go.Shelf.Ren := ⟨fun | 145 => 27 | 220 => 47 | 219 => 63 | 217 => 77 | 225 => 78 | 224 => 79 | 267 => 80 | 266 => 89 | 314 => 90 | n => n, fun | 9 => 9 | 4 => 4 | 59 => 55 | 3 => 3 | 5 => 5 | 46 => 111 | 146 => 124 | 51 => 123 | n => n, fun | 1 => 1 | n => n⟩
theorem Tryz.lays145 : Go.Proofs.Lays.n145 Tryz.prog Tryz.lays145_ren := {
  mixed := by kernel_rfl
  f145 := Tryz.func27.trans (congrArg some (by kernel_rfl))
  f217 := Tryz.func77.trans (congrArg some (by kernel_rfl))
  f219 := Tryz.func63.trans (congrArg some (by kernel_rfl))
  f220 := Tryz.func47.trans (congrArg some (by kernel_rfl))
  f224 := Tryz.func79.trans (congrArg some (by kernel_rfl))
  f225 := Tryz.func78.trans (congrArg some (by kernel_rfl))
  f266 := Tryz.func89.trans (congrArg some (by kernel_rfl))
  f267 := Tryz.func80.trans (congrArg some (by kernel_rfl))
  f314 := Tryz.func90.trans (congrArg some (by kernel_rfl))
  t3 := Tryz.underlying3
  a3 := Tryz.isAgg3
  z3 := Tryz.sizeOf3
  v3 := Tryz.zeroValue3
  t4 := Tryz.underlying4
  a4 := Tryz.isAgg4
  z4 := Tryz.sizeOf4
  v4 := Tryz.zeroValue4
  t5 := Tryz.underlying5
  a5 := Tryz.isAgg5
  z5 := Tryz.sizeOf5
  v5 := Tryz.zeroValue5
  t9 := Tryz.underlying9
  a9 := Tryz.isAgg9
  z9 := Tryz.sizeOf9
  v9 := Tryz.zeroValue9
  t46 := Tryz.underlying111
  a46 := Tryz.isAgg111
  z46 := Tryz.sizeOf111
  v46 := Tryz.zeroValue111
  t51 := Tryz.underlying123
  a51 := Tryz.isAgg123
  z51 := Tryz.sizeOf123
  v51 := Tryz.zeroValue123
  t59 := Tryz.underlying55
  a59 := Tryz.isAgg55
  z59 := Tryz.sizeOf55
  v59 := Tryz.zeroValue55
  t146 := Tryz.underlying124
  a146 := Tryz.isAgg124
  z146 := Tryz.sizeOf124
  v146 := Tryz.zeroValue124
  g1 := by kernel_rfl }
open Go.RowKit Go.Lib in
theorem Tryz.strings_Cut (s sep : ByteArray) (m : Int) (w : World) (hs : s.size < 4294967281) (hm : w.cell? ⟨1, 0, none⟩ = some (.int .i64 m)) :
    Calls Tryz.prog 27 #[.string s, .string sep] w fun e w' => e = .returned (.tuple #[.string ⟨(Lib.cut s.data.toList sep.data.toList).1.toArray⟩, .string ⟨(Lib.cut s.data.toList sep.data.toList).2.1.toArray⟩, .bool (Lib.cut s.data.toList sep.data.toList).2.2]) ∧ ∃ n, w' = w.drewN n := Any.strings_Cut Tryz.lays145 s sep m w hs hm
def Tryz.lays206_ren : Go.Shelf.Ren := ⟨fun | 206 => 94 | n => n, fun | 9 => 9 | 4 => 4 | 3 => 3 | n => n, fun | n => n⟩
theorem Tryz.lays206 : Go.Proofs.Lays.n206 Tryz.prog Tryz.lays206_ren := {
  mixed := by kernel_rfl
  f206 := Tryz.func94.trans (congrArg some (by kernel_rfl))
  t3 := Tryz.underlying3
  a3 := Tryz.isAgg3
  z3 := Tryz.sizeOf3
  v3 := Tryz.zeroValue3
  t4 := Tryz.underlying4
  a4 := Tryz.isAgg4
  z4 := Tryz.sizeOf4
  v4 := Tryz.zeroValue4
  t9 := Tryz.underlying9
  a9 := Tryz.isAgg9
  z9 := Tryz.sizeOf9
  v9 := Tryz.zeroValue9 }
open Go.RowKit Go.Lib in
theorem Tryz.stringslite_HasPrefix (s p : ByteArray) (w : World) :
    Calls Tryz.prog 94 #[.string s, .string p] w fun e w' => e = .returned (.bool (Lib.hasPrefix s.data.toList p.data.toList)) ∧ w' = w := Any.stringslite_HasPrefix Tryz.lays206 s p w
def Tryz.lays167_ren : Go.Shelf.Ren := ⟨fun | 167 => 96 | 240 => 98 | 276 => 103 | n => n, fun | 0 => 0 | 4 => 4 | 5 => 5 | 9 => 9 | 20 => 20 | 37 => 31 | 70 => 132 | 72 => 134 | 75 => 59 | 80 => 86 | 164 => 142 | n => n, fun | n => n⟩
theorem Tryz.lays167 : Go.Proofs.Lays.n167 Tryz.prog Tryz.lays167_ren := {
  mixed := by kernel_rfl
  f167 := Tryz.func96.trans (congrArg some (by kernel_rfl))
  f240 := Tryz.func98.trans (congrArg some (by kernel_rfl))
  f276 := Tryz.func103.trans (congrArg some (by kernel_rfl))
  t0 := Tryz.underlying0
  a0 := Tryz.isAgg0
  z0 := Tryz.sizeOf0
  v0 := Tryz.zeroValue0
  t4 := Tryz.underlying4
  a4 := Tryz.isAgg4
  z4 := Tryz.sizeOf4
  v4 := Tryz.zeroValue4
  t5 := Tryz.underlying5
  a5 := Tryz.isAgg5
  z5 := Tryz.sizeOf5
  v5 := Tryz.zeroValue5
  t9 := Tryz.underlying9
  a9 := Tryz.isAgg9
  z9 := Tryz.sizeOf9
  v9 := Tryz.zeroValue9
  t20 := Tryz.underlying20
  a20 := Tryz.isAgg20
  z20 := Tryz.sizeOf20
  v20 := Tryz.zeroValue20
  t37 := Tryz.underlying31
  a37 := Tryz.isAgg31
  z37 := Tryz.sizeOf31
  v37 := Tryz.zeroValue31
  t70 := Tryz.underlying132
  a70 := Tryz.isAgg132
  z70 := Tryz.sizeOf132
  v70 := Tryz.zeroValue132
  t72 := Tryz.underlying134
  a72 := Tryz.isAgg134
  z72 := Tryz.sizeOf134
  v72 := Tryz.zeroValue134
  t75 := Tryz.underlying59
  a75 := Tryz.isAgg59
  z75 := Tryz.sizeOf59
  v75 := Tryz.zeroValue59
  t164 := Tryz.underlying142
  a164 := Tryz.isAgg142
  z164 := Tryz.sizeOf142
  v164 := Tryz.zeroValue142 }
theorem Tryz.Builder_Extra_167 : Builder.Extra Tryz.prog Tryz.lays167_ren := {
  sizeBuilder := by kernel_rfl
  liesBuilder := by kernel_rfl
  t5 := Tryz.underlying5
  a5 := Tryz.isAgg5
  z5 := Tryz.sizeOf5
  v5 := Tryz.zeroValue5
  infoByte := by kernel_rfl
  cellsByte := by kernel_rfl
  sizeByte := by kernel_rfl
  neB5 := by decide }
open Go.RowKit in
theorem Tryz.Builder_WriteByte_k (B b : Nat) (bs : List Value) (c : Int) (w : World) (h : Lib.IsBuilderF 134 5 B b bs w) (hlen : bs.length + 1 ≤ 140737488355328) (hBw : B ≤ w.heap.size) :
    Calls Tryz.prog 96 #[.pointer (some ⟨b, 0, none⟩), .int .u8 c] w fun e w' => e = .returned .nilIface ∧ (Lib.BuilderAtF 134 5 B b (.pointer (some ⟨b, 0, none⟩)) (bs ++ [.int .u8 c]) w' ∧ Below B w w' ∧ Lib.OthersKept 5 (some b) w w') := Any.Builder_WriteByte_k Tryz.lays167 Tryz.Builder_Extra_167 B b bs c w h hlen hBw
end Go.Proofs
/- Glob -/
namespace Go.Proofs.YtghfbhobpodoeaaGreatDoor.O
open Go.RowKit Go.Proofs.YtghfbhobpodoeaaGreatDoorW.PrintWords Go.Proofs.YtghfbhobpodoeaaGreatDoorW.PrintLast Go.Proofs.YtghfbhobpodoeaaGreatDoorW.PrintMore
set_option linter.unusedVariables false
set_option linter.unusedSimpArgs false
structure Glob (w : World) : Prop where
  pow : Lib.TabIs Tryz.prog w "internal/strconv.uint64pow10" .u64 Lib.pow10Tab
  mlen : ∃ m, w.var? Tryz.prog "internal/bytealg.MaxLen" = some #[.int .i64 m]
  syn : ∃ t p, w.var? Tryz.prog "strconv.ErrSyntax" = some #[.iface t p]
  rng : ∃ t p, w.var? Tryz.prog "strconv.ErrRange" = some #[.iface t p]
theorem gpow : Tryz.prog.globalNamed "internal/strconv.uint64pow10" = some 6 := by kernel_rfl
theorem gmlen : Tryz.prog.globalNamed "internal/bytealg.MaxLen" = some 1 := by kernel_rfl
theorem gsyn : Tryz.prog.globalNamed "strconv.ErrSyntax" = some 2 := by kernel_rfl
theorem grng : Tryz.prog.globalNamed "strconv.ErrRange" = some 3 := by kernel_rfl
theorem Glob.below {w w' : World} (h : Glob w) (hb : Below w.heap.size w w') : Glob w' := by
  obtain ⟨h1, ⟨m, h2⟩, ⟨t3, p3, h3⟩, ⟨t4, p4, h4⟩⟩ := h
  exact ⟨Joins.var_stays gpow h1 hb (Nat.le_refl _), ⟨m, Joins.var_stays gmlen h2 hb (Nat.le_refl _)⟩, ⟨t3, p3, Joins.var_stays gsyn h3 hb (Nat.le_refl _)⟩, ⟨t4, p4, Joins.var_stays grng h4 hb (Nat.le_refl _)⟩⟩
theorem Glob.cell {w : World} (h : Glob w) : ∃ m, w.cell? ⟨1, 0, none⟩ = some (.int .i64 m) := by
  obtain ⟨m, hm⟩ := h.mlen
  exact ⟨m, by have h0 := World.var?_cell gmlen hm 0; simpa using h0⟩
/-- An error of the library's: none, or some interface value. -/
def ErrIs : Option Int → Value → Prop
  | none, v => v = .nilIface
  | some _, v => ∃ t p, v = .iface t p
theorem ErrIs.none_ {v : Value} (h : ErrIs none v) : v = .nilIface := h
theorem below_bytes (w : World) (e : TypeId) (s : ByteArray) : Below w.heap.size w (Lib.bytesWorld w e s) :=
  ⟨rfl, rfl, rfl, by rw [Lib.bytesWorld_size]; omega, fun i hi => Lib.bytesWorld_at_old w e s i hi⟩
theorem bt_getD (s : ByteArray) (k : Nat) (h : k < s.size) : ((s.data.toList.getD k 0).toNat : Int) = bt s k := by
  unfold bt
  have h2 : k < s.data.size := h
  simp [h, List.getD_eq_getElem?_getD]
  rfl
theorem ret_str {a b : ByteArray} (h : a = b) : Ending.returned (.string a) = .returned (.string b) := by rw [h]
def asciiB (s : ByteArray) : Bool := s.data.toList.all fun b => decide (b.toNat < 128)
def strings_TrimLeft.f (a0 a1 : ByteArray) : Option ByteArray := if a1.size < 4294967281 ∧ asciiB a1 = true then some ⟨(Lib.trimLeftS a0.data.toList a1.data.toList).toArray⟩ else none
theorem strings_TrimLeft.calls (a0 a1 : ByteArray) (r : ByteArray) (w : World) (h : strings_TrimLeft.f a0 a1 = some r) :
    Calls Tryz.prog 69 #[.string a0, .string a1] w fun e w' => e = .returned (.string r) ∧ Below w.heap.size w w' := by
  unfold strings_TrimLeft.f at h
  split at h
  case isFalse => exact absurd h zb45
  rename_i hb
  obtain rfl := Option.some.inj h
  exact Any.strings_TrimLeft_laid Tryz.lays161 zb9 a0 a1 w hb.1 (ascii_of_all hb.2)
def strings_Trim.f (a0 a1 : ByteArray) : Option ByteArray := if a0.size ≤ 9223372036854775807 ∧ a1.size < 4294967281 ∧ asciiB a1 = true then some ⟨(Lib.trimS a0.data.toList a1.data.toList).toArray⟩ else none
theorem strings_Trim.calls (a0 a1 : ByteArray) (r : ByteArray) (w : World) (h : strings_Trim.f a0 a1 = some r) :
    Calls Tryz.prog 24 #[.string a0, .string a1] w fun e w' => e = .returned (.string r) ∧ Below w.heap.size w w' := by
  unfold strings_Trim.f at h
  split at h
  case isFalse => exact absurd h zb45
  rename_i hb
  obtain rfl := Option.some.inj h
  exact Any.strings_Trim_laid Tryz.lays160 zb9 a0 a1 w hb.1 hb.2.1 (ascii_of_all hb.2.2)
end Go.Proofs.YtghfbhobpodoeaaGreatDoor.O
/- Px6 -/
namespace Go.Proofs.YtghfbhobpodoeaaGreatDoor.P
open Go.Proofs.YtghfbhobpodoeaaGreatDoor.B
open Go.RowKit Go.Proofs.YtghfbhobpodoeaaGreatDoorW.PrintWords Go.Proofs.YtghfbhobpodoeaaGreatDoorW.PrintLast Go.Proofs.YtghfbhobpodoeaaGreatDoorW.PrintMore
attribute [local go_sem] run_store_float str_leq str_gtr str_geq max2_int min2_int max_two min_two max_three min_three max_four min_four
set_option linter.unusedVariables false
set_option linter.unusedSimpArgs false
open Go.Proofs.YtghfbhobpodoeaaGreatDoor.O
def media_Text_Skip.f (s0_0 : ByteArray) : Option (ByteArray) := (strings_TrimLeft.f s0_0 (⟨#[32, 9]⟩ : ByteArray)).bind fun t110 => (some t110)
set_option maxHeartbeats 8000000 in
set_option maxRecDepth 100000 in
theorem media_Text_Skip.calls (g : Nat) (s0_0 : ByteArray) (r : ByteArray) (w0 w : World) (hI : IsS85 w0 w g s0_0) (hB : Below w0.heap.size w0 w) (h : media_Text_Skip.f s0_0 = some r) :
  Calls Tryz.prog 51 #[.pointer (some ⟨g, 0, none⟩)] w fun e w' => e = .returned (.tuple #[]) ∧ IsS85 w0 w' g r ∧ Below w0.heap.size w0 w' ∧ KeepBut w w' g none := by
 have HI0 := Aside0.mk hI
 have HK := Aside0.mk (KeepBut.refl w g none)
 have HL := Aside0.mk hB.size
 clear hI
 have HW0 := Aside0.mk hB.size
 have HB := Aside0.mk hB
 clear hB
 have H : ((strings_TrimLeft.f s0_0 (⟨#[32, 9]⟩ : ByteArray)).bind fun t110 => (some t110)) = some r := h
 clear h
 replace H := Option.bind_eq_some_iff.mp H
 obtain ⟨t110, A20, H⟩ := H
 replace H : (some t110) = some r := H
 have A2 := Aside0.mk A20
 clear A20
 obtain rfl := Option.some.inj H
 obtain ⟨HGz3, hgz3⟩ := HI0.out
 have hcz3_0 := cellS85_0 HGz3
 have hfz3_0 := blk_frozen HGz3 0
 clear HGz3 hgz3
 go_enter Tryz.func51, Tryz.ntmps51
 go_wp2_with (first | ((with_reducible refine gate_callee (f := 69) rfl ?_); refine goesL_ (some 6) rfl rfl Tryz.func69 zb9 rfl #[.string s0_0, .string (⟨#[32, 9]⟩ : ByteArray)] rfl zb2 ?_; (with_reducible refine (strings_TrimLeft.calls s0_0 (⟨#[32, 9]⟩ : ByteArray) t110 _ A2.out).mono ?_); rintro e w4 ⟨rfl, hb⟩; refine ⟨_, rfl, ?_⟩; have n0_ := Aside0.mk (IsS85.below zb44 hb); have n1_ := Aside0.mk (KeepBut.trans zb14 (KeepBut.of_below hb g none) (.inl rfl)); have n2_ := Aside0.mk (below_step zb38 hb); clear HI0; clear HK; clear HB; have HI0 := n0_; have HK := n1_; have HB := n2_; clear n0_ n1_ n2_; (try clear hb); (try clear hb2); (try clear hk); (try clear hi); obtain ⟨HGz5, hgz5⟩ := HI0.out; have hcz5_0 := cellS85_0 HGz5; have hfz5_0 := blk_frozen HGz5 0; clear HGz5 hgz5))
 first | go_end0 | ((try simp only [Exit.inBlock, Exit.then]); refine bodyPost_ret (results_none rfl _ _ _) rfl ?_)
 exact ⟨zb6, by repeat (first | (with_reducible first | exact HI0.out | apply IsS85.alloc | apply IsS85.drewN | apply IsS85.drew | apply IsS85.set_0) | exact HI0.out), by repeat (first | (with_reducible first | exact HB.out | apply below_alloc | apply pw_below_drewN | apply below_drew1 | refine below_set ?_ (IsS85.ge HI0.out)) | exact HB.out), by repeat (first | (with_reducible first | exact HK.out | apply KeepBut.set_ | apply keep_drewN | apply keep_drew | apply keep_alloc) | exact HK.out)⟩
end Go.Proofs.YtghfbhobpodoeaaGreatDoor.P
/- Ocut -/
namespace Go.Proofs.YtghfbhobpodoeaaGreatDoor.O
open Go.RowKit Go.Proofs.YtghfbhobpodoeaaGreatDoorW.PrintWords Go.Proofs.YtghfbhobpodoeaaGreatDoorW.PrintLast Go.Proofs.YtghfbhobpodoeaaGreatDoorW.PrintMore
set_option linter.unusedVariables false
set_option linter.unusedSimpArgs false
theorem below_drewN_ (w : World) (n : Nat) : Below w.heap.size w (w.drewN n) := ⟨rfl, rfl, rfl, Nat.le_refl _, fun _ _ => rfl⟩
def cutF (s sep : ByteArray) : ByteArray × ByteArray × Bool := (⟨(Lib.cut s.data.toList sep.data.toList).1.toArray⟩, ⟨(Lib.cut s.data.toList sep.data.toList).2.1.toArray⟩, (Lib.cut s.data.toList sep.data.toList).2.2)
def strings_Cut.f (a0 a1 : ByteArray) : Option (ByteArray × ByteArray × Bool) := if a0.size < 4294967281 then some (cutF a0 a1) else none
theorem strings_Cut.calls (a0 a1 : ByteArray) (r1 r2 : ByteArray) (r3 : Bool) (w : World) (hG : Glob w) (h : strings_Cut.f a0 a1 = some (r1, r2, r3)) :
    Calls Tryz.prog 27 #[.string a0, .string a1] w fun e w' => e = .returned (.tuple #[.string r1, .string r2, .bool r3]) ∧ Below w.heap.size w w' := by
  unfold strings_Cut.f at h
  split at h
  case isFalse => exact absurd h zb45
  rename_i hb
  have h' := Option.some.inj h
  unfold cutF at h'
  obtain ⟨e1, e23⟩ := Prod.mk.inj h'
  obtain ⟨e2, e3⟩ := Prod.mk.inj e23
  subst e1; subst e2; subst e3
  obtain ⟨m, hm⟩ := hG.cell
  refine (Tryz.strings_Cut a0 a1 m w hb hm).mono ?_
  rintro e w' ⟨rfl, n, rfl⟩
  exact ⟨rfl, below_drewN_ _ _⟩
def strings_IndexByte.f (a0 : ByteArray) (a1 : Int) : Option Int := some (Lib.indexByte a0.data.toList a1.toNat.toUInt8)
theorem strings_IndexByte.calls (a0 : ByteArray) (a1 : Int) (r : Int) (w : World) (h : strings_IndexByte.f a0 a1 = some r) :
    Calls Tryz.prog 70 #[.string a0, .int .u8 a1] w fun e w' => e = .returned (.int .i64 r) ∧ Drawn0 w w' := by
  obtain rfl := Option.some.inj h
  refine (Tryz.strings_IndexByte a0 a1 w).mono ?_
  rintro e w' ⟨rfl, rfl⟩
  exact ⟨rfl, Drawn0.refl _⟩
end Go.Proofs.YtghfbhobpodoeaaGreatDoor.O
/- Px7 -/
namespace Go.Proofs.YtghfbhobpodoeaaGreatDoor.P
open Go.Proofs.YtghfbhobpodoeaaGreatDoor.B
open Go.RowKit Go.Proofs.YtghfbhobpodoeaaGreatDoorW.PrintWords Go.Proofs.YtghfbhobpodoeaaGreatDoorW.PrintLast Go.Proofs.YtghfbhobpodoeaaGreatDoorW.PrintMore
attribute [local go_sem] run_store_float str_leq str_gtr str_geq max2_int min2_int max_two min_two max_three min_three max_four min_four
set_option linter.unusedVariables false
set_option linter.unusedSimpArgs false
open Go.Proofs.YtghfbhobpodoeaaGreatDoor.O
def media_Text_Token.l0 : Nat → Int → ByteArray → Option (ByteArray × ByteArray)
  | 0, _, _ => none
  | k + 1, x3, x1000 => if x3 < (x1000.size : Int) then (if 0 ≤ x3 then ((strings_IndexByte.f (⟨#[48, 49, 50, 51, 52, 53, 54, 55, 56, 57, 65, 66, 67, 68, 69, 70, 71, 72, 73, 74, 75, 76, 77, 78, 79, 80, 81, 82, 83, 84, 85, 86, 87, 88, 89, 90, 97, 98, 99, 100, 101, 102, 103, 104, 105, 106, 107, 108, 109, 110, 111, 112, 113, 114, 115, 116, 117, 118, 119, 120, 121, 122, 33, 35, 36, 37, 38, 39, 42, 43, 45, 46, 94, 95, 96, 124, 126]⟩ : ByteArray) (bt x1000 x3)).bind fun t111 => (if t111 ≥ 0 then (media_Text_Token.l0 k (wrap64 (x3 + 1)) x1000) else (if x3 ≤ (x1000.size : Int) then (some (x1000.extract 0 (x3 : Int).toNat, x1000.extract (x3 : Int).toNat x1000.size)) else (none)))) else (none)) else (if 0 ≤ x3 then (if x3 ≤ (x1000.size : Int) then (some (x1000.extract 0 (x3 : Int).toNat, x1000.extract (x3 : Int).toNat x1000.size)) else (none)) else (none))
def media_Text_Token.f (k : Nat) (s0_0 : ByteArray) : Option (ByteArray × ByteArray) := media_Text_Token.l0 k 0 s0_0
set_option maxHeartbeats 8000000 in
set_option maxRecDepth 100000 in
theorem media_Text_Token.calls (k : Nat) (g : Nat) (s0_0 : ByteArray) (r1 : ByteArray) (r2 : ByteArray) (w0 w : World) (hI : IsS85 w0 w g s0_0) (hB : Below w0.heap.size w0 w) (h : media_Text_Token.f k s0_0 = some (r1, r2)) :
  Calls Tryz.prog 52 #[.pointer (some ⟨g, 0, none⟩)] w fun e w' => e = .returned (.string r1) ∧ IsS85 w0 w' g r2 ∧ Below w0.heap.size w0 w' ∧ KeepBut w w' g none := by
 have HI0 := Aside0.mk hI
 have HK := Aside0.mk (KeepBut.refl w g none)
 have HL := Aside0.mk hB.size
 clear hI
 have HW0 := Aside0.mk hB.size
 have HB := Aside0.mk hB
 clear hB
 have H : (media_Text_Token.l0 k 0 s0_0) = some (r1, r2) := h
 clear h
 have H' := Aside0.mk H
 clear H
 go_enter Tryz.func52, Tryz.ntmps52
 go_wp2
 first | go_loopg [3] k (fun kq v3 w' => ∃ (x3_1 : Int), v3 = .int .i64 x3_1 ∧ Aside0 (media_Text_Token.l0 kq x3_1 s0_0 = some (r1, r2)) ∧ Aside0 (kq ≤ k) ∧ Aside0 (IsS85 w0 w' g s0_0) ∧ Aside0 (KeepBut w w' g none) ∧ Aside0 (Below w0.heap.size w0 w')) | (go_simp; go_loopg [3] k (fun kq v3 w' => ∃ (x3_1 : Int), v3 = .int .i64 x3_1 ∧ Aside0 (media_Text_Token.l0 kq x3_1 s0_0 = some (r1, r2)) ∧ Aside0 (kq ≤ k) ∧ Aside0 (IsS85 w0 w' g s0_0) ∧ Aside0 (KeepBut w w' g none) ∧ Aside0 (Below w0.heap.size w0 w')))
 case atStart => exact ⟨(0), zb4, H', ⟨Nat.le_refl _⟩, ⟨by repeat (first | (with_reducible first | exact HI0.out | apply IsS85.alloc | apply IsS85.drewN | apply IsS85.drew | apply IsS85.set_0) | exact HI0.out)⟩, ⟨by repeat (first | (with_reducible first | exact HK.out | apply KeepBut.set_ | apply keep_drewN | apply keep_drew | apply keep_alloc) | exact HK.out)⟩, ⟨by repeat (first | (with_reducible first | exact HB.out | apply below_alloc | apply pw_below_drewN | apply below_drew1 | refine below_set ?_ (IsS85.ge HI0.out)) | exact HB.out)⟩⟩
 case round =>
  clear H'
  obtain ⟨x3_1, rfl, HA, HK1, HI0, HK, HB⟩ := hrel
  cases gk with
  | zero => exact absurd HA.out (by simp [media_Text_Token.l0])
  | succ k1 =>
   have H := HA.out
   clear HA
   simp only [media_Text_Token.l0] at H
   by_cases c2 : x3_1 < (s0_0.size : Int)
   ·rw [if_pos c2] at H
    have c2b0 : decide (x3_1 < (s0_0.size : Int)) = true := decide_eq_true c2
    clear c2
    by_cases c3 : 0 ≤ x3_1
    ·rw [if_pos c3] at H
     have c3b0 : decide (0 ≤ x3_1) = true := decide_eq_true c3
     clear c3
     replace H := Option.bind_eq_some_iff.mp H
     obtain ⟨t111, A50, H⟩ := H
     replace H : (if t111 ≥ 0 then (media_Text_Token.l0 k1 (wrap64 (x3_1 + 1)) s0_0) else (if x3_1 ≤ (s0_0.size : Int) then (some (s0_0.extract 0 (x3_1 : Int).toNat, s0_0.extract (x3_1 : Int).toNat s0_0.size)) else (none))) = some (r1, r2) := H
     have A5 := Aside0.mk A50
     clear A50
     by_cases c6 : t111 ≥ 0
     ·rw [if_pos c6] at H
      have c6b0 : decide (0 ≤ t111) = true := decide_eq_true c6
      clear c6
      have H' := Aside0.mk H
      clear H
      obtain ⟨HGz7, hgz7⟩ := HI0.out
      have hcz7_0 := cellS85_0 HGz7
      have hfz7_0 := blk_frozen HGz7 0
      clear HGz7 hgz7
      have p4 : 0 ≤ (x3_1 : Int) := of_decide_eq_true zb3
      have q4 : x3_1 < (s0_0.size : Int) := of_decide_eq_true zb3
      have hx4 := bt_at s0_0 x3_1
      replace p4 := eq_true p4
      replace q4 := eq_true q4
      go_wp2_with (first | (go_at_call 70; (with_reducible refine (strings_IndexByte.calls (⟨#[48, 49, 50, 51, 52, 53, 54, 55, 56, 57, 65, 66, 67, 68, 69, 70, 71, 72, 73, 74, 75, 76, 77, 78, 79, 80, 81, 82, 83, 84, 85, 86, 87, 88, 89, 90, 97, 98, 99, 100, 101, 102, 103, 104, 105, 106, 107, 108, 109, 110, 111, 112, 113, 114, 115, 116, 117, 118, 119, 120, 121, 122, 33, 35, 36, 37, 38, 39, 42, 43, 45, 46, 94, 95, 96, 124, 126]⟩ : ByteArray) (bt s0_0 x3_1) t111 _ A5.out).mono ?_); rintro e w' ⟨rfl, ⟨nd, rfl⟩⟩))
      go_roundg k1
      case measure => have := HK1.out; omega
      case rel => exact ⟨(wrap64 (x3_1 + 1)), zb4, H', ⟨by have := HK1.out; omega⟩, ⟨by repeat (first | (with_reducible first | exact HI0.out | apply IsS85.alloc | apply IsS85.drewN | apply IsS85.drew | apply IsS85.set_0) | exact HI0.out)⟩, ⟨by repeat (first | (with_reducible first | exact HK.out | apply KeepBut.set_ | apply keep_drewN | apply keep_drew | apply keep_alloc) | exact HK.out)⟩, ⟨by repeat (first | (with_reducible first | exact HB.out | apply below_alloc | apply pw_below_drewN | apply below_drew1 | refine below_set ?_ (IsS85.ge HI0.out)) | exact HB.out)⟩⟩
     ·rw [if_neg c6] at H
      have c6b0 : decide (0 ≤ t111) = false := decide_eq_false c6
      clear c6
      have c8b0 := eq_true (of_decide_eq_true zb3 : 0 ≤ x3_1)
      by_cases c9 : x3_1 ≤ (s0_0.size : Int)
      ·rw [if_pos c9] at H
       have c9b0 := eq_true c9
       have c9b1 : decide (x3_1 ≤ (s0_0.size : Int)) = true := decide_eq_true c9
       clear c9
       have c10b0 := eq_true (of_decide_eq_true zb3 : 0 ≤ x3_1)
       have c11b0 := eq_true (of_decide_eq_true zb3 : x3_1 ≤ (s0_0.size : Int))
       simp only [Option.some.injEq, Prod.mk.injEq] at H
       obtain ⟨rfl, rfl⟩ := H
       obtain ⟨HGz12, hgz12⟩ := HI0.out
       have hcz12_0 := cellS85_0 HGz12
       have hfz12_0 := blk_frozen HGz12 0
       clear HGz12 hgz12
       have p4 : 0 ≤ (x3_1 : Int) := of_decide_eq_true zb3
       have q4 : x3_1 < (s0_0.size : Int) := of_decide_eq_true zb3
       have hx4 := bt_at s0_0 x3_1
       replace p4 := eq_true p4
       replace q4 := eq_true q4
       go_wp2_with (first | (go_at_call 70; (with_reducible refine (strings_IndexByte.calls (⟨#[48, 49, 50, 51, 52, 53, 54, 55, 56, 57, 65, 66, 67, 68, 69, 70, 71, 72, 73, 74, 75, 76, 77, 78, 79, 80, 81, 82, 83, 84, 85, 86, 87, 88, 89, 90, 97, 98, 99, 100, 101, 102, 103, 104, 105, 106, 107, 108, 109, 110, 111, 112, 113, 114, 115, 116, 117, 118, 119, 120, 121, 122, 33, 35, 36, 37, 38, 39, 42, 43, 45, 46, 94, 95, 96, 124, 126]⟩ : ByteArray) (bt s0_0 x3_1) t111 _ A5.out).mono ?_); rintro e w' ⟨rfl, ⟨nd, rfl⟩⟩; (try (rw [drewN_self wr]; generalize hq_ : World.drewN wr _ = wr; have n0_ : Aside0 (IsS85 w0 wr g s0_0) := ⟨by rw [← hq_]; exact zb44⟩; have n1_ : Aside0 (KeepBut w wr g none) := ⟨by rw [← hq_]; exact zb14⟩; have n2_ : Aside0 (Below w0.heap.size w0 wr) := ⟨by rw [← hq_]; exact zb38⟩; (try replace hcz12_0 := cell_undrew hq_ hcz12_0); (try replace hfz12_0 := froz_undrew hq_ hfz12_0); (try replace hcz12_1 := cell_undrew hq_ hcz12_1); (try replace hfz12_1 := froz_undrew hq_ hfz12_1); (try replace hcz12_2 := cell_undrew hq_ hcz12_2); (try replace hfz12_2 := froz_undrew hq_ hfz12_2); (try replace hcz12_3 := cell_undrew hq_ hcz12_3); (try replace hfz12_3 := froz_undrew hq_ hfz12_3); clear HI0 HK HB hq_; have HI0 := n0_; have HK := n1_; have HB := n2_; clear n0_ n1_ n2_))))
       go_ret
       exact ⟨zb6, by repeat (first | (with_reducible first | exact HI0.out | apply IsS85.alloc | apply IsS85.drewN | apply IsS85.drew | apply IsS85.set_0) | exact HI0.out), by repeat (first | (with_reducible first | exact HB.out | apply below_alloc | apply pw_below_drewN | apply below_drew1 | refine below_set ?_ (IsS85.ge HI0.out)) | exact HB.out), by repeat (first | (with_reducible first | exact HK.out | apply KeepBut.set_ | apply keep_drewN | apply keep_drew | apply keep_alloc) | exact HK.out)⟩
      ·rw [if_neg c9] at H
       exact absurd H zb45
    ·rw [if_neg c3] at H
     exact absurd H zb45
   ·rw [if_neg c2] at H
    have c2b0 : decide (x3_1 < (s0_0.size : Int)) = false := decide_eq_false c2
    clear c2
    by_cases c13 : 0 ≤ x3_1
    ·rw [if_pos c13] at H
     have c13b0 := eq_true c13
     have c13b1 : decide (0 ≤ x3_1) = true := decide_eq_true c13
     clear c13
     by_cases c14 : x3_1 ≤ (s0_0.size : Int)
     ·rw [if_pos c14] at H
      have c14b0 := eq_true c14
      have c14b1 : decide (x3_1 ≤ (s0_0.size : Int)) = true := decide_eq_true c14
      clear c14
      have c15b0 := eq_true (of_decide_eq_true zb3 : 0 ≤ x3_1)
      have c16b0 := eq_true (of_decide_eq_true zb3 : x3_1 ≤ (s0_0.size : Int))
      simp only [Option.some.injEq, Prod.mk.injEq] at H
      obtain ⟨rfl, rfl⟩ := H
      obtain ⟨HGz17, hgz17⟩ := HI0.out
      have hcz17_0 := cellS85_0 HGz17
      have hfz17_0 := blk_frozen HGz17 0
      clear HGz17 hgz17
      go_wp2
      go_ret
      exact ⟨zb6, by repeat (first | (with_reducible first | exact HI0.out | apply IsS85.alloc | apply IsS85.drewN | apply IsS85.drew | apply IsS85.set_0) | exact HI0.out), by repeat (first | (with_reducible first | exact HB.out | apply below_alloc | apply pw_below_drewN | apply below_drew1 | refine below_set ?_ (IsS85.ge HI0.out)) | exact HB.out), by repeat (first | (with_reducible first | exact HK.out | apply KeepBut.set_ | apply keep_drewN | apply keep_drew | apply keep_alloc) | exact HK.out)⟩
     ·rw [if_neg c14] at H
      exact absurd H zb45
    ·rw [if_neg c13] at H
     exact absurd H zb45
end Go.Proofs.YtghfbhobpodoeaaGreatDoor.P
/- Px8 -/
namespace Go.Proofs.YtghfbhobpodoeaaGreatDoor.P
open Go.Proofs.YtghfbhobpodoeaaGreatDoor.B
open Go.RowKit Go.Proofs.YtghfbhobpodoeaaGreatDoorW.PrintWords Go.Proofs.YtghfbhobpodoeaaGreatDoorW.PrintLast Go.Proofs.YtghfbhobpodoeaaGreatDoorW.PrintMore
attribute [local go_sem] run_store_float str_leq str_gtr str_geq max2_int min2_int max_two min_two max_three min_three max_four min_four
set_option linter.unusedVariables false
set_option linter.unusedSimpArgs false
def stringslite_HasPrefix.f (a0 : ByteArray) (a1 : ByteArray) : Option (Bool) := if (a0.size : Int) ≥ (a1.size : Int) then (if 0 ≤ (a1.size : Int) then (if (a1.size : Int) ≤ (a0.size : Int) then (some ((a0.extract 0 ((a1.size : Int) : Int).toNat).toList == a1.toList)) else (none)) else (none)) else (some false)
set_option maxHeartbeats 8000000 in
set_option maxRecDepth 100000 in
theorem stringslite_HasPrefix.calls (a0 : ByteArray) (a1 : ByteArray) (r : Bool) (w : World) (h : stringslite_HasPrefix.f a0 a1 = some r) :
  Calls Tryz.prog 94 #[.string a0, .string a1] w fun e w' => e = .returned (.bool r) ∧ Drawn0 w w' := by
 have H : (if (a0.size : Int) ≥ (a1.size : Int) then (if 0 ≤ (a1.size : Int) then (if (a1.size : Int) ≤ (a0.size : Int) then (some ((a0.extract 0 ((a1.size : Int) : Int).toNat).toList == a1.toList)) else (none)) else (none)) else (some false)) = some r := h
 clear h
 by_cases c3 : (a0.size : Int) ≥ (a1.size : Int)
 ·rw [if_pos c3] at H
  have c3b0 : decide ((a1.size : Int) ≤ (a0.size : Int)) = true := decide_eq_true c3
  have c3b1 : decide (a1.size ≤ a0.size) = true := decide_eq_true (Int.ofNat_le.mp c3)
  clear c3
  by_cases c4 : 0 ≤ (a1.size : Int)
  ·rw [if_pos c4] at H
   have c4b0 := eq_true c4
   have c4b1 : decide (0 ≤ (a1.size : Int)) = true := decide_eq_true c4
   clear c4
   by_cases c5 : (a1.size : Int) ≤ (a0.size : Int)
   ·rw [if_pos c5] at H
    have c5b0 := eq_true c5
    have c5b1 : decide ((a1.size : Int) ≤ (a0.size : Int)) = true := decide_eq_true c5
    clear c5
    obtain rfl := Option.some.inj H
    go_enter Tryz.func94, Tryz.ntmps94
    go_wp2
    go_ret
    exact ⟨by first | rfl | (simp; done) | (simp [*]; done), by repeat (first | exact Drawn0.refl _ | apply Drawn0.step)⟩
   ·rw [if_neg c5] at H
    exact absurd H zb45
  ·rw [if_neg c4] at H
   exact absurd H zb45
 ·rw [if_neg c3] at H
  have c3b0 : decide ((a1.size : Int) ≤ (a0.size : Int)) = false := decide_eq_false c3
  have c3b1 : decide (a1.size ≤ a0.size) = false := decide_eq_false (fun h => c3 (Int.ofNat_le.mpr h))
  clear c3
  obtain rfl := Option.some.inj H
  go_enter Tryz.func94, Tryz.ntmps94
  go_wp2
  go_ret
  exact ⟨by first | rfl | (simp; done) | (simp [*]; done), by repeat (first | exact Drawn0.refl _ | apply Drawn0.step)⟩
def stringslite_CutPrefix.f (a0 : ByteArray) (a1 : ByteArray) : Option (ByteArray × Bool) := (stringslite_HasPrefix.f a0 a1).bind fun t112 => (if t112 = true then (if 0 ≤ (a1.size : Int) then (if (a1.size : Int) ≤ (a0.size : Int) then (some (a0.extract ((a1.size : Int) : Int).toNat a0.size, true)) else (none)) else (none)) else (some (a0, false)))
set_option maxHeartbeats 8000000 in
set_option maxRecDepth 100000 in
theorem stringslite_CutPrefix.calls (a0 : ByteArray) (a1 : ByteArray) (r1 : ByteArray) (r2 : Bool) (w : World) (h : stringslite_CutPrefix.f a0 a1 = some (r1, r2)) :
  Calls Tryz.prog 85 #[.string a0, .string a1] w fun e w' => e = .returned (.tuple #[.string r1, .bool r2]) ∧ Drawn0 w w' := by
 have H : ((stringslite_HasPrefix.f a0 a1).bind fun t112 => (if t112 = true then (if 0 ≤ (a1.size : Int) then (if (a1.size : Int) ≤ (a0.size : Int) then (some (a0.extract ((a1.size : Int) : Int).toNat a0.size, true)) else (none)) else (none)) else (some (a0, false)))) = some (r1, r2) := h
 clear h
 replace H := Option.bind_eq_some_iff.mp H
 obtain ⟨t112, A30, H⟩ := H
 replace H : (if t112 = true then (if 0 ≤ (a1.size : Int) then (if (a1.size : Int) ≤ (a0.size : Int) then (some (a0.extract ((a1.size : Int) : Int).toNat a0.size, true)) else (none)) else (none)) else (some (a0, false))) = some (r1, r2) := H
 have A3 := Aside0.mk A30
 clear A30
 by_cases c4 : t112 = true
 ·subst c4
  replace H : (if 0 ≤ (a1.size : Int) then (if (a1.size : Int) ≤ (a0.size : Int) then (some (a0.extract ((a1.size : Int) : Int).toNat a0.size, true)) else (none)) else (none)) = some (r1, r2) := by rw [if_pos rfl] at H; exact H
  by_cases c5 : 0 ≤ (a1.size : Int)
  ·rw [if_pos c5] at H
   have c5b0 := eq_true c5
   have c5b1 : decide (0 ≤ (a1.size : Int)) = true := decide_eq_true c5
   clear c5
   by_cases c6 : (a1.size : Int) ≤ (a0.size : Int)
   ·rw [if_pos c6] at H
    have c6b0 := eq_true c6
    have c6b1 : decide ((a1.size : Int) ≤ (a0.size : Int)) = true := decide_eq_true c6
    clear c6
    simp only [Option.some.injEq, Prod.mk.injEq] at H
    obtain ⟨rfl, rfl⟩ := H
    go_enter Tryz.func85, Tryz.ntmps85
    go_wp2_with (first | ((with_reducible refine gate_callee (f := 94) rfl ?_); refine goesL_ (some 8) rfl rfl Tryz.func94 zb9 rfl #[.string a0, .string a1] rfl zb2 ?_; (with_reducible refine (stringslite_HasPrefix.calls a0 a1 true _ A3.out).mono ?_); rintro e w' ⟨rfl, ⟨nd, rfl⟩⟩; refine ⟨_, rfl, ?_⟩))
    go_ret2
    exact ⟨by first | rfl | (simp; done) | (simp [*]; done), by repeat (first | exact Drawn0.refl _ | apply Drawn0.step)⟩
   ·rw [if_neg c6] at H
    exact absurd H zb45
  ·rw [if_neg c5] at H
   exact absurd H zb45
 ·replace c4 := Bool.eq_false_iff.mpr c4
  subst c4
  replace H : (some (a0, false)) = some (r1, r2) := by rw [if_neg (show ¬ (false = true) by decide)] at H; exact H
  simp only [Option.some.injEq, Prod.mk.injEq] at H
  obtain ⟨rfl, rfl⟩ := H
  go_enter Tryz.func85, Tryz.ntmps85
  go_wp2_with (first | ((with_reducible refine gate_callee (f := 94) rfl ?_); refine goesL_ (some 8) rfl rfl Tryz.func94 zb9 rfl #[.string a0, .string a1] rfl zb2 ?_; (with_reducible refine (stringslite_HasPrefix.calls a0 a1 false _ A3.out).mono ?_); rintro e w' ⟨rfl, ⟨nd, rfl⟩⟩; refine ⟨_, rfl, ?_⟩))
  go_ret2
  exact ⟨by first | rfl | (simp; done) | (simp [*]; done), by repeat (first | exact Drawn0.refl _ | apply Drawn0.step)⟩
def strings_CutPrefix.f (a0 : ByteArray) (a1 : ByteArray) : Option (ByteArray × Bool) := (stringslite_CutPrefix.f a0 a1).bind fun bt113 => (some (bt113.1, bt113.2))
set_option maxHeartbeats 8000000 in
set_option maxRecDepth 100000 in
theorem strings_CutPrefix.calls (a0 : ByteArray) (a1 : ByteArray) (r1 : ByteArray) (r2 : Bool) (w : World) (h : strings_CutPrefix.f a0 a1 = some (r1, r2)) :
  Calls Tryz.prog 71 #[.string a0, .string a1] w fun e w' => e = .returned (.tuple #[.string r1, .bool r2]) ∧ Drawn0 w w' := by
 have H : ((stringslite_CutPrefix.f a0 a1).bind fun bt113 => (some (bt113.1, bt113.2))) = some (r1, r2) := h
 clear h
 replace H := Option.bind_eq_some_iff.mp H
 obtain ⟨⟨t113, t114⟩, A30, H⟩ := H
 replace H : (some (t113, t114)) = some (r1, r2) := H
 have A3 := Aside0.mk A30
 clear A30
 simp only [Option.some.injEq, Prod.mk.injEq] at H
 obtain ⟨rfl, rfl⟩ := H
 go_enter Tryz.func71, Tryz.ntmps71
 go_wp2_with (first | ((with_reducible refine gate_callee (f := 85) rfl ?_); refine goesL_ (some 8) rfl rfl Tryz.func85 zb9 rfl #[.string a0, .string a1] rfl zb2 ?_; (with_reducible refine (stringslite_CutPrefix.calls a0 a1 t113 t114 _ A3.out).mono ?_); rintro e w' ⟨rfl, ⟨nd, rfl⟩⟩; refine ⟨_, rfl, ?_⟩))
 go_ret2
 exact ⟨by first | rfl | (simp; done) | (simp [*]; done), by repeat (first | exact Drawn0.refl _ | apply Drawn0.step)⟩
def media_Text_Take.f (s0_0 : ByteArray) (a1 : ByteArray) : Option (Bool × ByteArray) := (strings_CutPrefix.f s0_0 a1).bind fun bt115 => (some (bt115.2, bt115.1))
set_option maxHeartbeats 8000000 in
set_option maxRecDepth 100000 in
theorem media_Text_Take.calls (g : Nat) (s0_0 : ByteArray) (a1 : ByteArray) (r1 : Bool) (r2 : ByteArray) (w0 w : World) (hI : IsS85 w0 w g s0_0) (hB : Below w0.heap.size w0 w) (h : media_Text_Take.f s0_0 a1 = some (r1, r2)) :
  Calls Tryz.prog 53 #[.pointer (some ⟨g, 0, none⟩), .string a1] w fun e w' => e = .returned (.bool r1) ∧ IsS85 w0 w' g r2 ∧ Below w0.heap.size w0 w' ∧ KeepBut w w' g none := by
 have HI0 := Aside0.mk hI
 have HK := Aside0.mk (KeepBut.refl w g none)
 have HL := Aside0.mk hB.size
 clear hI
 have HW0 := Aside0.mk hB.size
 have HB := Aside0.mk hB
 clear hB
 have H : ((strings_CutPrefix.f s0_0 a1).bind fun bt115 => (some (bt115.2, bt115.1))) = some (r1, r2) := h
 clear h
 replace H := Option.bind_eq_some_iff.mp H
 obtain ⟨⟨t115, t116⟩, A30, H⟩ := H
 replace H : (some (t116, t115)) = some (r1, r2) := H
 have A3 := Aside0.mk A30
 clear A30
 simp only [Option.some.injEq, Prod.mk.injEq] at H
 obtain ⟨rfl, rfl⟩ := H
 obtain ⟨HGz4, hgz4⟩ := HI0.out
 have hcz4_0 := cellS85_0 HGz4
 have hfz4_0 := blk_frozen HGz4 0
 clear HGz4 hgz4
 go_enter Tryz.func53, Tryz.ntmps53
 go_wp2_with (first | ((with_reducible refine gate_callee (f := 71) rfl ?_); refine goesL_ (some 12) rfl rfl Tryz.func71 zb9 rfl #[.string s0_0, .string a1] rfl zb2 ?_; (with_reducible refine (strings_CutPrefix.calls s0_0 a1 t115 t116 _ A3.out).mono ?_); rintro e w' ⟨rfl, ⟨nd, rfl⟩⟩; refine ⟨_, rfl, ?_⟩))
 go_ret
 exact ⟨zb6, by repeat (first | (with_reducible first | exact HI0.out | apply IsS85.alloc | apply IsS85.drewN | apply IsS85.drew | apply IsS85.set_0) | exact HI0.out), by repeat (first | (with_reducible first | exact HB.out | apply below_alloc | apply pw_below_drewN | apply below_drew1 | refine below_set ?_ (IsS85.ge HI0.out)) | exact HB.out), by repeat (first | (with_reducible first | exact HK.out | apply KeepBut.set_ | apply keep_drewN | apply keep_drew | apply keep_alloc) | exact HK.out)⟩
end Go.Proofs.YtghfbhobpodoeaaGreatDoor.P
/- Omed -/
namespace Go.Proofs.YtghfbhobpodoeaaGreatDoor.O
open Go.RowKit Go.Proofs.YtghfbhobpodoeaaGreatDoorW.PrintWords Go.Proofs.YtghfbhobpodoeaaGreatDoorW.PrintLast Go.Proofs.YtghfbhobpodoeaaGreatDoorW.PrintMore
set_option linter.unusedVariables false
set_option linter.unusedSimpArgs false
def lowI (c : Int) : Int := if 65 ≤ c ∧ c ≤ 90 then c + 32 else c
theorem low_or (c : Int) (h : 65 ≤ c ∧ c ≤ 90) : Go.bits .or .u8 c 32 = c + 32 := by
  obtain ⟨a, rfl⟩ := Int.eq_ofNat_of_zero_le (show 0 ≤ c by omega)
  have key : ∀ a : Fin 26, Go.bits .or .u8 (((a.val + 65 : Nat)) : Int) 32 = ((a.val + 65 : Nat) : Int) + 32 := by decide +kernel
  have := key ⟨a - 65, by omega⟩
  rwa [show a - 65 + 65 = a by omega] at this
def smallAt (s : ByteArray) (k : Nat) : List Int := (List.range s.size).map fun (j : Nat) => if j < k then lowI (bt s j) else bt s j
theorem smallAt_len (s : ByteArray) (k : Nat) : (smallAt s k).length = s.size := by simp [smallAt]
theorem smallAt_get (s : ByteArray) (k j : Nat) (h : j < s.size) : (smallAt s k).getD j 0 = if j < k then lowI (bt s j) else bt s j := by
  simp [smallAt, List.getD_eq_getElem?_getD, h]
def media_Small.f (a0 : ByteArray) : Option ByteArray := if a0.size ≤ 9223372036854775807 then some (strOfNums (smallAt a0 a0.size)) else none
set_option maxHeartbeats 1000000 in
theorem media_Small.calls (a0 : ByteArray) (r : ByteArray) (w : World) (h : media_Small.f a0 = some r) :
    Calls Tryz.prog 55 #[.string a0] w fun e w' => e = .returned (.string r) ∧ Below w.heap.size w w' := by
  unfold media_Small.f at h
  split at h
  case isFalse => exact absurd h zb45
  rename_i hsz
  obtain rfl := Option.some.inj h
  clear h
  have hconv := Lib.run_convert_string_bytes (P := Tryz.prog) w 9 31 5 a0 Tryz.underlying9 Tryz.underlying31 Tryz.underlying5
  have hb := Lib.hid (below_bytes w 5 a0)
  have hcell := Lib.hid (fun j hj => Lib.bytesWorld_cell w 5 a0 j hj)
  have hfz : Hid (∀ j : Nat, j < a0.size → (Lib.bytesWorld w 5 a0).frozen? ⟨w.heap.size, j, none⟩ = false) := Lib.hid (fun j hj => by
    have hs : a0.size ≤ (Lib.bytesCells w 5 a0).size := by
      unfold Lib.bytesCells
      rw [Array.size_append, Array.size_map]
      exact Nat.le_add_right _ _
    unfold World.frozen?
    rw [Lib.bytesWorld_at_new]
    simp
    omega)
  have hlt0 : Hid (w.heap.size < (Lib.bytesWorld w 5 a0).heap.size) := Lib.hid (by rw [Lib.bytesWorld_size]; omega)
  generalize Lib.bytesWorld w 5 a0 = w1 at *
  generalize grownCap w a0.size 0 5 = cap at *
  go_enter Tryz.func55, Tryz.ntmps55
  go_wp2
  go_loopw [10] (fun i wr => ∃ k : Nat, k ≤ a0.size ∧ i = .int .i64 k ∧ Hid (∀ j : Nat, j < a0.size → wr.cell? ⟨w.heap.size, j, none⟩ = some (.int .u8 ((smallAt a0 k).getD j 0)) ∧ wr.frozen? ⟨w.heap.size, j, none⟩ = false) ∧ Hid (Below w.heap.size w wr)) (fun i _ => a0.size - (intOf i).toNat)
  case atStart =>
    refine ⟨0, Nat.zero_le _, rfl, Lib.hid (fun j hj => ⟨?_, hfz.out j hj⟩), hb⟩
    rw [hcell.out j hj, bt_getD a0 j hj, smallAt_get a0 0 j hj, if_neg zb42]
  case round =>
    obtain ⟨k, hk, rfl, hc, hB⟩ := hrel
    by_cases hlt : k < a0.size
    · have hck : wr.cell? ⟨w.heap.size, k, none⟩ = some (.int .u8 (bt a0 k)) := by rw [(hc.out k hlt).1, smallAt_get a0 k k hlt, if_neg zb42]
      have hfk := (hc.out k hlt).2
      obtain ⟨q1, q2⟩ := bt_range a0 k
      have hrest : Hid (∀ j : Nat, j < a0.size → j ≠ k → (smallAt a0 (k + 1)).getD j 0 = (smallAt a0 k).getD j 0) := Lib.hid (fun j hj hne => by
        rw [smallAt_get _ _ _ hj, smallAt_get _ _ _ hj]
        by_cases hjk : j < k
        · rw [if_pos hjk, if_pos zb42]
        · rw [if_neg hjk, if_neg zb42])
      have hself : Hid ((smallAt a0 (k + 1)).getD k 0 = lowI (bt a0 k)) := Lib.hid (by rw [smallAt_get _ _ _ hlt, if_pos zb42])
      generalize bt a0 k = c at *
      by_cases hup : 65 ≤ c ∧ c ≤ 90
      · have ho := low_or c hup
        have hl : Hid (lowI c = c + 32) := Lib.hid (by unfold lowI; rw [if_pos hup])
        obtain ⟨u1, u2⟩ := hup
        go_wp2
        go_roundw
        case rel =>
          refine ⟨k + 1, by omega, by go_num, Lib.hid (fun j hj => ?_), Lib.hid (hB.out.setCell (Nat.le_refl _) _)⟩
          by_cases hjk : j = k
          · subst hjk
            rw [hself.out, hl.out]
            exact ⟨World.cell?_setCell_same _ _ _ hck, by rw [World.frozen?_setCell]; exact hfk⟩
          · refine ⟨?_, by rw [World.frozen?_setCell]; exact (hc.out j hj).2⟩
            have hne : (⟨w.heap.size, (k : Nat), none⟩ : Addr) ≠ ⟨w.heap.size, j, none⟩ := fun e => hjk (congrArg Addr.off e).symm
            exact ((World.cell?_setCell_other _ _ _ _ hne).trans (hc.out j hj).1).trans (by rw [hrest.out j hj hjk])
        case measure => simp [intOf]; omega
      · have hl : Hid (lowI c = c) := Lib.hid (by unfold lowI; rw [if_neg hup])
        have hd : Hid (∀ j : Nat, j < a0.size → wr.cell? ⟨w.heap.size, j, none⟩ = some (.int .u8 ((smallAt a0 (k + 1)).getD j 0)) ∧ wr.frozen? ⟨w.heap.size, j, none⟩ = false) := Lib.hid (fun j hj => by
          by_cases hjk : j = k
          · subst hjk
            rw [hself.out, hl.out]
            exact ⟨hck, hfk⟩
          · rw [hrest.out j hj hjk]
            exact hc.out j hj)
        by_cases u1 : 65 ≤ c
        · have u2 : ¬ c ≤ 90 := fun h => hup ⟨u1, h⟩
          clear hup
          go_wp2
          go_roundw
          case rel => exact ⟨k + 1, by omega, by go_num, hd, hB⟩
          case measure => simp [intOf]; omega
        · clear hup
          go_wp2
          go_roundw
          case rel => exact ⟨k + 1, by omega, by go_num, hd, hB⟩
          case measure => simp [intOf]; omega
    · obtain rfl : k = a0.size := by omega
      have hconv2 : (convert 31 9 (.slice (some ⟨w.heap.size, 0, none⟩) a0.size cap)).run Tryz.prog wr = .ok (.string (strOfNums (smallAt a0 a0.size))) wr := string_of_reads Tryz.underlying31 Tryz.underlying5 Tryz.underlying9 ⟨smallAt_len _ _, hsz, fun _ => ⟨_, rfl, fun j hj => by
        have := (hc.out j hj).1
        by_cases h0 : j = 0
        · subst h0
          exact this
        · simp only [Addr.add, h0, if_false, Nat.zero_add]
          exact this⟩⟩
      obtain ⟨out, hout⟩ : ∃ x, x = strOfNums (smallAt a0 a0.size) := ⟨_, rfl⟩
      rw [← hout] at hconv2
      have hout' := Lib.hid hout
      clear hout
      go_wp2
      go_ret
      exact ⟨ret_str hout'.out, hB.out⟩
def badI (c : Int) : Bool := decide (c < 32) && !(c == 9) || c == 127
end Go.Proofs.YtghfbhobpodoeaaGreatDoor.O
/- Obld -/
namespace Go.Proofs.YtghfbhobpodoeaaGreatDoor.O
open Go.RowKit Go.Proofs.YtghfbhobpodoeaaGreatDoorW.PrintWords Go.Proofs.YtghfbhobpodoeaaGreatDoorW.PrintLast Go.Proofs.YtghfbhobpodoeaaGreatDoorW.PrintMore Go.Proofs.YtghfbhobpodoeaaGreatDoor.P Go.Proofs.YtghfbhobpodoeaaGreatDoor.B
set_option linter.unusedVariables false
set_option linter.unusedSimpArgs false
theorem cells_len (s : ByteArray) : (Lib.byteCells s.data.toList).length = s.size := by rw [Lib.byteCells_length, data_length]
def oneB (c : Int) : ByteArray := ⟨#[UInt8.ofNat c.toNat]⟩
theorem byte_cell (s : ByteArray) (c : Int) (h0 : 0 ≤ c) (h1 : c ≤ 255) : Lib.byteCells s.data.toList ++ [.int .u8 c] = Lib.byteCells (s ++ oneB c).data.toList := by
  have e : ((UInt8.ofNat c.toNat).toNat : Int) = c := by rw [UInt8.toNat_ofNat']; omega
  have e2 : (oneB c).data.toList = [UInt8.ofNat c.toNat] := rfl
  rw [show (s ++ oneB c).data.toList = s.data.toList ++ (oneB c).data.toList from by simp, e2]
  unfold Lib.byteCells
  rw [List.map_append, List.map_cons, List.map_nil, e]
theorem badI_low {c : Int} (h1 : c < 32) (h2 : ¬ c = 9) : badI c = true := by unfold badI; simp [h1, h2]
theorem badI_no {c : Int} (h1 : ¬ c < 32) (h3 : ¬ c = 127) : badI c = false := by unfold badI; simp [h1, h3]
theorem oneB_size (s : ByteArray) (c : Int) : (s ++ oneB c).size = s.size + 1 := by rw [ByteArray.size_append]; rfl
theorem Builder_WriteByte.calls (g : Nat) (s : ByteArray) (c : Int) (w0 w : World) (h0 : 0 ≤ c) (h1 : c ≤ 255) (hI : IsS134 w0 w g s) (hB : Below w0.heap.size w0 w) (hs : s.size + 1 ≤ 140737488355328) :
    Calls Tryz.prog 96 #[.pointer (some ⟨g, 0, none⟩), .int .u8 c] w fun e w' => e = .returned .nilIface ∧ IsS134 w0 w' g (s ++ oneB c) ∧ Below w0.heap.size w0 w' := by
  refine (Tryz.Builder_WriteByte_k w0.heap.size g _ c w hI (by rw [cells_len]; exact hs) hB.size).mono ?_
  rintro e w' ⟨rfl, h2, h3, h4⟩
  rw [byte_cell s c h0 h1] at h2
  exact ⟨rfl, .inr h2, hB.trans h3⟩
def qtF (s : ByteArray) : Nat → Nat → ByteArray → Option (ByteArray × Nat)
  | 0, _, _ => none
  | f + 1, k, acc => if k < s.size then (if bt s k = 34 then some (acc, k + 1) else if bt s k = 92 then (if k + 1 < s.size then (if badI (bt s ((k + 1 : Nat) : Int)) = true then none else qtF s f (k + 2) (acc ++ oneB (bt s ((k + 1 : Nat) : Int)))) else none) else if badI (bt s k) = true then none else qtF s f (k + 1) (acc ++ oneB (bt s k))) else none
def qtR (s : ByteArray) : Option (ByteArray × Nat) → ByteArray × Bool × ByteArray
  | some (t, k) => (t, true, s.extract k s.size)
  | none => (⟨#[]⟩, false, s)
def Text_Quoted.f (s0 : ByteArray) : Option (ByteArray × Bool × ByteArray) := if s0.size ≤ 140737488355327 then some (qtR s0 (qtF s0 (s0.size + 1) 0 ⟨#[]⟩)) else none
/-- What the callee leaves of the caller's memory. -/
theorem quo_end {w0 w W : World} {g : Nat} {s0 : ByteArray} (hI : IsS85 w0 w g s0) (hB : Below w0.heap.size w0 w) (hb : Below w.heap.size w W) : IsS85 w0 W g s0 ∧ Below w0.heap.size w0 W ∧ KeepBut w W g none :=
  ⟨hI.below hb, below_step hB hb, KeepBut.of_below hb g none⟩
set_option maxHeartbeats 2000000 in
theorem Text_Quoted.calls (g : Nat) (s0_0 : ByteArray) (r1 : ByteArray) (r2 : Bool) (r3 : ByteArray) (w0 w : World) (hI : IsS85 w0 w g s0_0) (hB : Below w0.heap.size w0 w) (h : Text_Quoted.f s0_0 = some (r1, r2, r3)) :
    Calls Tryz.prog 86 #[.pointer (some ⟨g, 0, none⟩)] w fun e w' => e = .returned (.tuple #[.string r1, .bool r2]) ∧ IsS85 w0 w' g r3 ∧ Below w0.heap.size w0 w' ∧ KeepBut w w' g none := by
  unfold Text_Quoted.f at h
  split at h
  case isFalse => exact absurd h zb45
  rename_i hsz
  have hres := Lib.hid (Option.some.inj h)
  clear h
  have hglt := hI.lt
  have hHI := Lib.hid hI
  have hHB := Lib.hid hB
  have hcell0 : Hid (w.cell? ⟨g, 0, none⟩ = some (.string s0_0) ∧ w.frozen? ⟨g, 0, none⟩ = false) := Lib.hid ⟨(blk_cell hI.1 0).trans rfl, blk_frozen hI.1 0⟩
  have hnew : Hid (IsS134 w (w.alloc (.cells #[.pointer none, .slice none 0 0] 134)) w.heap.size ⟨#[]⟩) := Lib.hid (IsS134.new (by simpa using heap_alloc_new w _) (Nat.le_refl _))
  have hnewB : Hid (Below w.heap.size w (w.alloc (.cells #[.pointer none, .slice none 0 0] 134))) := Lib.hid (below_alloc (Below.refl _ _) _)
  clear hI hB
  go_enter Tryz.func86, Tryz.ntmps86
  go_wp2
  go_loopw [5] (fun i wr => ∃ (k f : Nat) (acc : ByteArray), k ≤ s0_0.size ∧ i = .int .i64 k ∧ Hid (s0_0.size + 1 ≤ f + k ∧ acc.size ≤ k ∧ qtR s0_0 (qtF s0_0 f k acc) = (r1, r2, r3)) ∧ Hid (IsS134 w wr w.heap.size acc) ∧ Hid (Below w.heap.size w wr)) (fun i _ => s0_0.size - (intOf i).toNat)
  case atStart => exact ⟨0, s0_0.size + 1, ⟨#[]⟩, Nat.zero_le _, rfl, Lib.hid ⟨by omega, Nat.le_refl _, hres.out⟩, hnew, hnewB⟩
  case round =>
    obtain ⟨k, f, acc, hk, rfl, hq, hS, hW⟩ := hrel
    have hc0 : wr.cell? ⟨g, 0, none⟩ = some (.string s0_0) := (hW.out.cell hglt).trans hcell0.out.1
    have hf0 : wr.frozen? ⟨g, 0, none⟩ = false := (hW.out.frozen hglt).trans hcell0.out.2
    obtain ⟨f, rfl⟩ : ∃ f', f = f' + 1 := ⟨f - 1, by have := hq.out.1; omega⟩
    by_cases hlt : k < s0_0.size
    · have hq2 : Hid ((s0_0.size + 1 ≤ f + 1 + k ∧ acc.size ≤ k) ∧ qtR s0_0 (if bt s0_0 k = 34 then some (acc, k + 1) else if bt s0_0 k = 92 then (if k + 1 < s0_0.size then (if badI (bt s0_0 ((k + 1 : Nat) : Int)) = true then none else qtF s0_0 f (k + 2) (acc ++ oneB (bt s0_0 ((k + 1 : Nat) : Int)))) else none) else if badI (bt s0_0 k) = true then none else qtF s0_0 f (k + 1) (acc ++ oneB (bt s0_0 k))) = (r1, r2, r3)) := Lib.hid ⟨⟨hq.out.1, hq.out.2.1⟩, by
        have := hq.out.2.2
        rw [qtF, if_pos hlt] at this
        exact this⟩
      clear hq
      obtain ⟨q1, q2⟩ := bt_range s0_0 k
      have hidx : ∀ h : k < s0_0.size, ((s0_0[k]'h).toNat : Int) = bt s0_0 k := fun h => by simp [bt, h]
      obtain ⟨⟨hfk, hacc⟩, hr⟩ := hq2.out
      clear hq2
      by_cases c34 : bt s0_0 k = 34
      · rw [if_pos c34] at hr
        obtain ⟨e1, e2, e3⟩ : acc = r1 ∧ true = r2 ∧ s0_0.extract (k + 1) s0_0.size = r3 := by simpa [qtR] using hr
        clear hr
        have hS2 : Hid (IsS134 w (wr.setCell ⟨g, 0, none⟩ (.string (s0_0.extract (k + 1) s0_0.size))) w.heap.size acc) := Lib.hid (hS.out.farB (by show w.heap.size ≠ g; omega) ⟨_, _, (hHI.out.below hW.out).1⟩ zb47 _)
        have HC0 := Tryz.Builder_String_any_k w.heap.size w.heap.size acc.data.toList _ hS2.out (by simpa [World.setCell] using hW.out.size)
        rw [show (⟨acc.data.toList.toArray⟩ : ByteArray) = acc from by cases acc; simp] at HC0
        have HC := Lib.hid HC0
        clear HC0
        have hk1 : (k : Int) + 1 ≤ (s0_0.size : Int) := by omega
        have hw1 : wrap64 ((k : Int) + 1) = ((k + 1 : Nat) : Int) := by unfold wrap64; omega
        clear hS2
        have he1 := Lib.hid e1; have he2 := Lib.hid e2; have he3 := Lib.hid e3
        clear e1 e2 e3
        rw [c34] at hidx
        go_wp2_with (go_at_call 95; refine HC.out.mono ?_; rintro e w2 ⟨rfl, _, hb2, _⟩; have hb2 := Lib.hid hb2)
        go_ret2
        have hs1 : IsS85 w0 (wr.setCell ⟨g, 0, none⟩ (.string (s0_0.extract (k + 1) s0_0.size))) g (s0_0.extract (k + 1) s0_0.size) := (hHI.out.below hW.out).set_0 _
        refine ⟨?_, ?_, ?_, ?_⟩
        · show Ending.returned (.tuple #[.string acc, .bool true]) = _
          rw [← he1.out, ← he2.out]
        · rw [← he3.out]
          exact ⟨(hb2.out.block g hglt).trans hs1.1, hs1.2⟩
        · exact (below_set (below_step hHB.out hW.out) hHI.out.ge).trans (hb2.out.mono hHB.out.size)
        · exact ⟨Nat.le_trans (by simpa [World.setCell] using hW.out.size) hb2.out.size, fun i hi hg _ => (hb2.out.block i hi).trans ((Below.heap_setCell _ _ _ _ hg).trans (hW.out.block i hi))⟩
      · rw [if_neg c34] at hr
        by_cases c92 : bt s0_0 k = 92
        · rw [if_pos c92] at hr
          have hw1 : wrap64 ((k : Int) + 1) = ((k + 1 : Nat) : Int) := by unfold wrap64; omega
          rw [c92] at hidx
          by_cases hk1 : k + 1 < s0_0.size
          · rw [if_pos hk1] at hr
            have hidx2 : ∀ h : k + 1 < s0_0.size, ((s0_0[k + 1]'h).toNat : Int) = bt s0_0 ((k + 1 : Nat) : Int) := fun h => by unfold bt; rw [dif_pos zb42]; rfl
            obtain ⟨p1, p2⟩ := bt_range s0_0 ((k + 1 : Nat) : Int)
            generalize hd : bt s0_0 ((k + 1 : Nat) : Int) = d at *
            clear hd
            have hne : ¬ ((k + 1 : Nat) : Int) = (s0_0.size : Int) := by omega
            by_cases h1 : d < 32
            · by_cases h2 : d = 9
              · have hb0 : badI d = false := by rw [h2]; decide
                subst h2
                rw [if_neg (by rw [hb0]; decide)] at hr
                have hr2 := Lib.hid hr
                have HC := Lib.hid (Builder_WriteByte.calls w.heap.size acc 9 w wr zb42 zb42 hS.out hW.out zb42)
                clear hr hb0
                go_wp2_with (go_at_call 96; refine HC.out.mono ?_; rintro e w2 ⟨rfl, hi, hb⟩; have hi := Lib.hid hi; have hb := Lib.hid hb)
                go_roundw
                case rel => exact ⟨k + 2, f, acc ++ oneB 9, by omega, by go_num, Lib.hid ⟨by omega, by rw [oneB_size]; omega, hr2.out⟩, hi, hb⟩
                case measure => simp [intOf]; omega
              · have hb1 : badI d = true := badI_low h1 h2
                rw [if_pos hb1] at hr
                obtain ⟨e1, e2, e3⟩ : (⟨#[]⟩ : ByteArray) = r1 ∧ false = r2 ∧ s0_0 = r3 := by simpa [qtR] using hr
                subst e1; subst e2; subst e3
                clear hr hb1
                go_wp2
                go_ret2
                exact ⟨rfl, quo_end hHI.out hHB.out hW.out⟩
            · by_cases h3 : d = 127
              · have hb1 : badI d = true := by rw [h3]; decide
                subst h3
                rw [if_pos hb1] at hr
                obtain ⟨e1, e2, e3⟩ : (⟨#[]⟩ : ByteArray) = r1 ∧ false = r2 ∧ s0_0 = r3 := by simpa [qtR] using hr
                subst e1; subst e2; subst e3
                clear hr hb1
                go_wp2
                go_ret2
                exact ⟨rfl, quo_end hHI.out hHB.out hW.out⟩
              · have hb0 : badI d = false := badI_no h1 h3
                rw [if_neg (by rw [hb0]; decide)] at hr
                have hr2 := Lib.hid hr
                have HC := Lib.hid (Builder_WriteByte.calls w.heap.size acc d w wr zb42 zb42 hS.out hW.out zb42)
                clear hr hb0
                go_wp2_with (go_at_call 96; refine HC.out.mono ?_; rintro e w2 ⟨rfl, hi, hb⟩; have hi := Lib.hid hi; have hb := Lib.hid hb)
                go_roundw
                case rel => exact ⟨k + 2, f, acc ++ oneB d, by omega, by go_num, Lib.hid ⟨by omega, by rw [oneB_size]; omega, hr2.out⟩, hi, hb⟩
                case measure => simp [intOf]; omega
          · rw [if_neg hk1] at hr
            obtain ⟨e1, e2, e3⟩ : (⟨#[]⟩ : ByteArray) = r1 ∧ false = r2 ∧ s0_0 = r3 := by simpa [qtR] using hr
            subst e1; subst e2; subst e3
            have hne : ((k + 1 : Nat) : Int) = (s0_0.size : Int) := by omega
            clear hr
            go_wp2
            go_ret2
            exact ⟨rfl, quo_end hHI.out hHB.out hW.out⟩
        · rw [if_neg c92] at hr
          generalize hd : bt s0_0 k = d at *
          clear hd
          by_cases h1 : d < 32
          · by_cases h2 : d = 9
            · have hb0 : badI d = false := by rw [h2]; decide
              subst h2
              rw [if_neg (by rw [hb0]; decide)] at hr
              have hr2 := Lib.hid hr
              have HC := Lib.hid (Builder_WriteByte.calls w.heap.size acc 9 w wr zb42 zb42 hS.out hW.out zb42)
              clear hr hb0
              go_wp2_with (go_at_call 96; refine HC.out.mono ?_; rintro e w2 ⟨rfl, hi, hb⟩; have hi := Lib.hid hi; have hb := Lib.hid hb)
              go_roundw
              case rel => exact ⟨k + 1, f, acc ++ oneB 9, by omega, by go_num, Lib.hid ⟨by omega, by rw [oneB_size]; omega, hr2.out⟩, hi, hb⟩
              case measure => simp [intOf]; omega
            · have hb1 : badI d = true := badI_low h1 h2
              rw [if_pos hb1] at hr
              obtain ⟨e1, e2, e3⟩ : (⟨#[]⟩ : ByteArray) = r1 ∧ false = r2 ∧ s0_0 = r3 := by simpa [qtR] using hr
              subst e1; subst e2; subst e3
              clear hr hb1
              go_wp2
              go_ret2
              exact ⟨rfl, quo_end hHI.out hHB.out hW.out⟩
          · by_cases h3 : d = 127
            · have hb1 : badI d = true := by rw [h3]; decide
              subst h3
              rw [if_pos hb1] at hr
              obtain ⟨e1, e2, e3⟩ : (⟨#[]⟩ : ByteArray) = r1 ∧ false = r2 ∧ s0_0 = r3 := by simpa [qtR] using hr
              subst e1; subst e2; subst e3
              clear hr hb1
              go_wp2
              go_ret2
              exact ⟨rfl, quo_end hHI.out hHB.out hW.out⟩
            · have hb0 : badI d = false := badI_no h1 h3
              rw [if_neg (by rw [hb0]; decide)] at hr
              have hr2 := Lib.hid hr
              have HC := Lib.hid (Builder_WriteByte.calls w.heap.size acc d w wr zb42 zb42 hS.out hW.out zb42)
              clear hr hb0
              go_wp2_with (go_at_call 96; refine HC.out.mono ?_; rintro e w2 ⟨rfl, hi, hb⟩; have hi := Lib.hid hi; have hb := Lib.hid hb)
              go_roundw
              case rel => exact ⟨k + 1, f, acc ++ oneB d, by omega, by go_num, Lib.hid ⟨by omega, by rw [oneB_size]; omega, hr2.out⟩, hi, hb⟩
              case measure => simp [intOf]; omega
    · obtain rfl : k = s0_0.size := by omega
      have hr := hq.out.2.2
      rw [qtF, if_neg zb42] at hr
      obtain ⟨e1, e2, e3⟩ : (⟨#[]⟩ : ByteArray) = r1 ∧ false = r2 ∧ s0_0 = r3 := by simpa [qtR] using hr
      subst e1; subst e2; subst e3
      clear hr hq
      go_wp2
      go_ret2
      exact ⟨rfl, quo_end hHI.out hHB.out hW.out⟩
end Go.Proofs.YtghfbhobpodoeaaGreatDoor.O
/- Px12 -/
namespace Go.Proofs.YtghfbhobpodoeaaGreatDoor.P
open Go.Proofs.YtghfbhobpodoeaaGreatDoor.B
open Go.RowKit Go.Proofs.YtghfbhobpodoeaaGreatDoorW.PrintWords Go.Proofs.YtghfbhobpodoeaaGreatDoorW.PrintLast Go.Proofs.YtghfbhobpodoeaaGreatDoorW.PrintMore
attribute [local go_sem] run_store_float str_leq str_gtr str_geq max2_int min2_int max_two min_two max_three min_three max_four min_four
set_option linter.unusedVariables false
set_option linter.unusedSimpArgs false
open Go.Proofs.YtghfbhobpodoeaaGreatDoor.O
def media_Text_Value.f (k : Nat) (s0_0 : ByteArray) : Option (ByteArray × Bool × ByteArray) := (media_Text_Take.f s0_0 (⟨#[34]⟩ : ByteArray)).bind fun bt117 => (if bt117.1 = true then ((Text_Quoted.f bt117.2).bind fun bt119 => (some (bt119.1, bt119.2.1, bt119.2.2))) else ((media_Text_Token.f k bt117.2).bind fun bt122 => (some (bt122.1, (bt122.1.toList != ([] : List UInt8)), bt122.2))))
set_option maxHeartbeats 8000000 in
set_option maxRecDepth 100000 in
theorem media_Text_Value.calls (k : Nat) (g : Nat) (s0_0 : ByteArray) (r1 : ByteArray) (r2 : Bool) (r3 : ByteArray) (w0 w : World) (hI : IsS85 w0 w g s0_0) (hB : Below w0.heap.size w0 w) (h : media_Text_Value.f k s0_0 = some (r1, r2, r3)) :
  Calls Tryz.prog 72 #[.pointer (some ⟨g, 0, none⟩)] w fun e w' => e = .returned (.tuple #[.string r1, .bool r2]) ∧ IsS85 w0 w' g r3 ∧ Below w0.heap.size w0 w' ∧ KeepBut w w' g none := by
 have HI0 := Aside0.mk hI
 have HK := Aside0.mk (KeepBut.refl w g none)
 have HL := Aside0.mk hB.size
 clear hI
 have HW0 := Aside0.mk hB.size
 have HB := Aside0.mk hB
 clear hB
 have H : ((media_Text_Take.f s0_0 (⟨#[34]⟩ : ByteArray)).bind fun bt117 => (if bt117.1 = true then ((Text_Quoted.f bt117.2).bind fun bt119 => (some (bt119.1, bt119.2.1, bt119.2.2))) else ((media_Text_Token.f k bt117.2).bind fun bt122 => (some (bt122.1, (bt122.1.toList != ([] : List UInt8)), bt122.2))))) = some (r1, r2, r3) := h
 clear h
 replace H := Option.bind_eq_some_iff.mp H
 obtain ⟨⟨t117, t118⟩, A20, H⟩ := H
 replace H : (if t117 = true then ((Text_Quoted.f t118).bind fun bt119 => (some (bt119.1, bt119.2.1, bt119.2.2))) else ((media_Text_Token.f k t118).bind fun bt122 => (some (bt122.1, (bt122.1.toList != ([] : List UInt8)), bt122.2)))) = some (r1, r2, r3) := H
 have A2 := Aside0.mk A20
 clear A20
 by_cases c3 : t117 = true
 ·subst c3
  replace H : ((Text_Quoted.f t118).bind fun bt119 => (some (bt119.1, bt119.2.1, bt119.2.2))) = some (r1, r2, r3) := by rw [if_pos rfl] at H; exact H
  replace H := Option.bind_eq_some_iff.mp H
  obtain ⟨⟨t119, t120, t121⟩, A40, H⟩ := H
  replace H : (some (t119, t120, t121)) = some (r1, r2, r3) := H
  have A4 := Aside0.mk A40
  clear A40
  simp only [Option.some.injEq, Prod.mk.injEq] at H
  obtain ⟨rfl, rfl, rfl⟩ := H
  go_enter Tryz.func72, Tryz.ntmps72
  go_wp2_with (first | ((with_reducible refine gate_callee (f := 53) rfl ?_); refine goesL_ (some 6) rfl rfl Tryz.func53 zb9 rfl #[.pointer (some ⟨g, 0, none⟩), .string (⟨#[34]⟩ : ByteArray)] rfl zb2 ?_; (with_reducible refine (media_Text_Take.calls g s0_0 (⟨#[34]⟩ : ByteArray) true t118 w0 _ ?side1 ?side2 A2.out).mono ?_); (case side1 => repeat (first | (with_reducible first | exact HI0.out | apply IsS85.alloc | apply IsS85.drewN | apply IsS85.drew | apply IsS85.set_0) | exact HI0.out)); (case side2 => repeat (first | (with_reducible first | exact HB.out | apply below_alloc | apply pw_below_drewN | apply below_drew1 | refine below_set ?_ (IsS85.ge HI0.out)) | exact HB.out)); rintro e w5 ⟨rfl, hi, hb, hk⟩; refine ⟨_, rfl, ?_⟩; have n0_ := Aside0.mk (KeepBut.trans zb14 hk (.inl rfl)); have n1_ := Aside0.mk (hb); have n2_ := Aside0.mk (hi); clear HK; clear HB; clear HI0; have HK := n0_; have HB := n1_; have HI0 := n2_; clear n0_ n1_ n2_; (try clear hb); (try clear hb2); (try clear hk); (try clear hi)) | ((with_reducible refine gate_callee (f := 86) rfl ?_); refine goesL_ (some 8) rfl rfl Tryz.func86 zb9 rfl #[.pointer (some ⟨g, 0, none⟩)] rfl zb2 ?_; (with_reducible refine (Text_Quoted.calls g t118 t119 t120 t121 w0 _ ?side1 ?side2 A4.out).mono ?_); (case side1 => repeat (first | (with_reducible first | exact HI0.out | apply IsS85.alloc | apply IsS85.drewN | apply IsS85.drew | apply IsS85.set_0) | exact HI0.out)); (case side2 => repeat (first | (with_reducible first | exact HB.out | apply below_alloc | apply pw_below_drewN | apply below_drew1 | refine below_set ?_ (IsS85.ge HI0.out)) | exact HB.out)); rintro e w6 ⟨rfl, hi, hb, hk⟩; refine ⟨_, rfl, ?_⟩; have n0_ := Aside0.mk (KeepBut.trans zb14 hk (.inl rfl)); have n1_ := Aside0.mk (hb); have n2_ := Aside0.mk (hi); clear HK; clear HB; clear HI0; have HK := n0_; have HB := n1_; have HI0 := n2_; clear n0_ n1_ n2_; (try clear hb); (try clear hb2); (try clear hk); (try clear hi)))
  go_ret2
  exact ⟨zb6, by repeat (first | (with_reducible first | exact HI0.out | apply IsS85.alloc | apply IsS85.drewN | apply IsS85.drew | apply IsS85.set_0) | exact HI0.out), by repeat (first | (with_reducible first | exact HB.out | apply below_alloc | apply pw_below_drewN | apply below_drew1 | refine below_set ?_ (IsS85.ge HI0.out)) | exact HB.out), by repeat (first | (with_reducible first | exact HK.out | apply KeepBut.set_ | apply keep_drewN | apply keep_drew | apply keep_alloc) | exact HK.out)⟩
 ·replace c3 := Bool.eq_false_iff.mpr c3
  subst c3
  replace H : ((media_Text_Token.f k t118).bind fun bt122 => (some (bt122.1, (bt122.1.toList != ([] : List UInt8)), bt122.2))) = some (r1, r2, r3) := by rw [if_neg (show ¬ (false = true) by decide)] at H; exact H
  replace H := Option.bind_eq_some_iff.mp H
  obtain ⟨⟨t122, t123⟩, A70, H⟩ := H
  replace H : (some (t122, (t122.toList != ([] : List UInt8)), t123)) = some (r1, r2, r3) := H
  have A7 := Aside0.mk A70
  clear A70
  simp only [Option.some.injEq, Prod.mk.injEq] at H
  obtain ⟨rfl, rfl, rfl⟩ := H
  go_enter Tryz.func72, Tryz.ntmps72
  go_wp2_with (first | ((with_reducible refine gate_callee (f := 53) rfl ?_); refine goesL_ (some 6) rfl rfl Tryz.func53 zb9 rfl #[.pointer (some ⟨g, 0, none⟩), .string (⟨#[34]⟩ : ByteArray)] rfl zb2 ?_; (with_reducible refine (media_Text_Take.calls g s0_0 (⟨#[34]⟩ : ByteArray) false t118 w0 _ ?side1 ?side2 A2.out).mono ?_); (case side1 => repeat (first | (with_reducible first | exact HI0.out | apply IsS85.alloc | apply IsS85.drewN | apply IsS85.drew | apply IsS85.set_0) | exact HI0.out)); (case side2 => repeat (first | (with_reducible first | exact HB.out | apply below_alloc | apply pw_below_drewN | apply below_drew1 | refine below_set ?_ (IsS85.ge HI0.out)) | exact HB.out)); rintro e w8 ⟨rfl, hi, hb, hk⟩; refine ⟨_, rfl, ?_⟩; have n0_ := Aside0.mk (KeepBut.trans zb14 hk (.inl rfl)); have n1_ := Aside0.mk (hb); have n2_ := Aside0.mk (hi); clear HK; clear HB; clear HI0; have HK := n0_; have HB := n1_; have HI0 := n2_; clear n0_ n1_ n2_; (try clear hb); (try clear hb2); (try clear hk); (try clear hi)) | ((with_reducible refine gate_callee (f := 52) rfl ?_); refine goesL_ (some 12) rfl rfl Tryz.func52 zb9 rfl #[.pointer (some ⟨g, 0, none⟩)] rfl zb2 ?_; (with_reducible refine (media_Text_Token.calls k g t118 t122 t123 w0 _ ?side1 ?side2 A7.out).mono ?_); (case side1 => repeat (first | (with_reducible first | exact HI0.out | apply IsS85.alloc | apply IsS85.drewN | apply IsS85.drew | apply IsS85.set_0) | exact HI0.out)); (case side2 => repeat (first | (with_reducible first | exact HB.out | apply below_alloc | apply pw_below_drewN | apply below_drew1 | refine below_set ?_ (IsS85.ge HI0.out)) | exact HB.out)); rintro e w9 ⟨rfl, hi, hb, hk⟩; refine ⟨_, rfl, ?_⟩; have n0_ := Aside0.mk (KeepBut.trans zb14 hk (.inl rfl)); have n1_ := Aside0.mk (hb); have n2_ := Aside0.mk (hi); clear HK; clear HB; clear HI0; have HK := n0_; have HB := n1_; have HI0 := n2_; clear n0_ n1_ n2_; (try clear hb); (try clear hb2); (try clear hk); (try clear hi)))
  go_ret2
  exact ⟨zb6, by repeat (first | (with_reducible first | exact HI0.out | apply IsS85.alloc | apply IsS85.drewN | apply IsS85.drew | apply IsS85.set_0) | exact HI0.out), by repeat (first | (with_reducible first | exact HB.out | apply below_alloc | apply pw_below_drewN | apply below_drew1 | refine below_set ?_ (IsS85.ge HI0.out)) | exact HB.out), by repeat (first | (with_reducible first | exact HK.out | apply KeepBut.set_ | apply keep_drewN | apply keep_drew | apply keep_alloc) | exact HK.out)⟩
mutual
def media_Text_Params.l0 : Nat → List (S50) → ByteArray → Option ((List (S50)) × Bool × ByteArray)
  | 0, _, _ => none
  | k + 1, x2, x1000 => if x1000.toList = ([] : List UInt8) then (some (x2, true, x1000)) else ((media_Text_Take.f x1000 (⟨#[59]⟩ : ByteArray)).bind fun bt125 => (if bt125.1 = true then ((media_Text_Skip.f bt125.2).bind fun t127 => ((media_Text_Token.f k t127).bind fun bt128 => (if bt128.1.toList = ([] : List UInt8) then (media_Text_Params.j1 k x2 bt128.1 true bt128.2) else ((media_Text_Take.f bt128.2 (⟨#[61]⟩ : ByteArray)).bind fun bt130 => (media_Text_Params.j1 k x2 bt128.1 (!bt130.1) bt130.2))))) else (some (([] : List (S50)), false, bt125.2))))
def media_Text_Params.j1 : Nat → List (S50) → ByteArray → Bool → ByteArray → Option ((List (S50)) × Bool × ByteArray)
  | 0, _, _, _, _ => none
  | k + 1, x2, x4, x28, x1000 => if x28 = true then (some (([] : List (S50)), false, x1000)) else ((media_Text_Value.f k x1000).bind fun bt132 => (if bt132.2.1 = true then ((media_Small.f x4).bind fun t135 => (if x2.length < 4398046511104 then ((media_Text_Skip.f bt132.2.2).bind fun t139 => (media_Text_Params.l0 k (x2 ++ [(⟨t135, bt132.1⟩ : S50)]) t139)) else (none))) else (some (([] : List (S50)), false, bt132.2.2))))
end
def media_Text_Params.f (k : Nat) (s0_0 : ByteArray) : Option ((List (S50)) × Bool × ByteArray) := (media_Text_Skip.f s0_0).bind fun t124 => (media_Text_Params.l0 k ([] : List (S50)) t124)
set_option maxHeartbeats 8000000 in
set_option maxRecDepth 100000 in
theorem media_Text_Params.calls (k : Nat) (g : Nat) (s0_0 : ByteArray) (r1 : List (S50)) (r2 : Bool) (r3 : ByteArray) (w0 w : World) (hI : IsS85 w0 w g s0_0) (hB : Below w0.heap.size w0 w) (h : media_Text_Params.f k s0_0 = some (r1, r2, r3)) :
  Calls Tryz.prog 54 #[.pointer (some ⟨g, 0, none⟩)] w fun e w' => ∃ v0_ : Value, e = .returned (.tuple #[v0_, .bool r2]) ∧ Kd.R k50 50 w' w.heap.size (fun _ => True) v0_ r1 ∧ IsS85 w0 w' g r3 ∧ Below w0.heap.size w0 w' ∧ KeepBut w w' g none := by
 have hu50 := Tryz.underlying50
 have HI0 := Aside0.mk hI
 have HK := Aside0.mk (KeepBut.refl w g none)
 have HL := Aside0.mk hB.size
 clear hI
 have HW0 := Aside0.mk hB.size
 have HB := Aside0.mk hB
 clear hB
 have H : ((media_Text_Skip.f s0_0).bind fun t124 => (media_Text_Params.l0 k ([] : List (S50)) t124)) = some (r1, r2, r3) := h
 clear h
 replace H := Option.bind_eq_some_iff.mp H
 obtain ⟨t124, A20, H⟩ := H
 replace H : (media_Text_Params.l0 k ([] : List (S50)) t124) = some (r1, r2, r3) := H
 have A2 := Aside0.mk A20
 clear A20
 have H' := Aside0.mk H
 clear H
 go_enter Tryz.func54, Tryz.ntmps54
 go_wp2_with (first | ((with_reducible refine gate_callee (f := 51) rfl ?_); refine goesL_ (some 8) rfl rfl Tryz.func51 zb9 rfl #[.pointer (some ⟨g, 0, none⟩)] rfl zb2 ?_; (with_reducible refine (media_Text_Skip.calls g s0_0 t124 w0 _ ?side1 ?side2 A2.out).mono ?_); (case side1 => repeat (first | (with_reducible first | exact HI0.out | apply IsS85.alloc | apply IsS85.drewN | apply IsS85.drew | apply IsS85.set_0) | exact HI0.out)); (case side2 => repeat (first | (with_reducible first | exact HB.out | apply below_alloc | apply pw_below_drewN | apply below_drew1 | refine below_set ?_ (IsS85.ge HI0.out)) | exact HB.out)); rintro e w3 ⟨rfl, hi, hb, hk⟩; refine ⟨_, rfl, ?_⟩; have n0_ := Aside0.mk (KeepBut.trans zb14 hk (.inl rfl)); have n1_ := Aside0.mk (hb); have n2_ := Aside0.mk (hi); clear HK; clear HB; clear HI0; have HK := n0_; have HB := n1_; have HI0 := n2_; clear n0_ n1_ n2_; (try clear hb); (try clear hb2); (try clear hk); (try clear hi)))
 first | go_loopg [2] k (fun kq v2 w' => ∃ (x2_1 : List (S50)) (x1000_1 : ByteArray), Aside0 (media_Text_Params.l0 kq x2_1 x1000_1 = some (r1, r2, r3)) ∧ Aside0 (kq ≤ k) ∧ Aside0 (Kd.R k50 50 w' w.heap.size (fun _ => True) v2 x2_1) ∧ Aside0 (IsS85 w0 w' g x1000_1) ∧ Aside0 (KeepBut w w' g none) ∧ Aside0 (Below w0.heap.size w0 w')) | (go_simp; go_loopg [2] k (fun kq v2 w' => ∃ (x2_1 : List (S50)) (x1000_1 : ByteArray), Aside0 (media_Text_Params.l0 kq x2_1 x1000_1 = some (r1, r2, r3)) ∧ Aside0 (kq ≤ k) ∧ Aside0 (Kd.R k50 50 w' w.heap.size (fun _ => True) v2 x2_1) ∧ Aside0 (IsS85 w0 w' g x1000_1) ∧ Aside0 (KeepBut w w' g none) ∧ Aside0 (Below w0.heap.size w0 w')))
 case atStart => exact ⟨(([] : List (S50))), (t124), H', ⟨Nat.le_refl _⟩, ⟨by first | exact Kd.R_nil _ _ _ _ _ | exact Kd.N_nil _ _ _ _ _ | exact Kd.V_nil _ _ _ _ _ | exact Kd.Q_nil _ _ _ _ _ | exact Kd.S_nil _ _ _ _ _⟩, ⟨by repeat (first | (with_reducible first | exact HI0.out | apply IsS85.alloc | apply IsS85.drewN | apply IsS85.drew | apply IsS85.set_0) | exact HI0.out)⟩, ⟨by repeat (first | (with_reducible first | exact HK.out | apply KeepBut.set_ | apply keep_drewN | apply keep_drew | apply keep_alloc) | exact HK.out)⟩, ⟨by repeat (first | (with_reducible first | exact HB.out | apply below_alloc | apply pw_below_drewN | apply below_drew1 | refine below_set ?_ (IsS85.ge HI0.out)) | exact HB.out)⟩⟩
 case round =>
  clear H'
  try clear p2
  obtain ⟨x2_1, x1000_1, HA, HK1, HO_2, HI0, HK, HB⟩ := hrel
  cases gk with
  | zero => exact absurd HA.out (by simp [media_Text_Params.l0])
  | succ k1 =>
   have H := HA.out
   clear HA
   simp only [media_Text_Params.l0] at H
   by_cases c4 : x1000_1.toList = ([] : List UInt8)
   ·rw [if_pos c4] at H
    have c4b0 : (x1000_1.toList == ([] : List UInt8)) = true := beq_iff_eq.mpr c4
    have c4b1 : (x1000_1.toList != ([] : List UInt8)) = false := bne_eq_false_iff_eq.mpr c4
    clear c4
    simp only [Option.some.injEq, Prod.mk.injEq] at H
    obtain ⟨rfl, rfl, rfl⟩ := H
    obtain ⟨HGz5, hgz5⟩ := HI0.out
    have hcz5_0 := cellS85_0 HGz5
    have hfz5_0 := blk_frozen HGz5 0
    clear HGz5 hgz5
    go_wp2
    go_ret2
    exact ⟨_, by first | rfl | (simp [errW_none, errW_some, bne_nil_] <;> rfl) | (simp [*, errW_none, errW_some] <;> rfl), by (with_reducible repeat (first | apply Kd.R_alloc | apply Kd.R_drewN | apply Kd.R_drew)); exact HO_2.out, by repeat (first | (with_reducible first | exact HI0.out | apply IsS85.alloc | apply IsS85.drewN | apply IsS85.drew | apply IsS85.set_0) | exact HI0.out), by repeat (first | (with_reducible first | exact HB.out | apply below_alloc | apply pw_below_drewN | apply below_drew1 | refine below_set ?_ (IsS85.ge HI0.out)) | exact HB.out), by repeat (first | (with_reducible first | exact HK.out | apply KeepBut.set_ | apply keep_drewN | apply keep_drew | apply keep_alloc) | exact HK.out)⟩
   ·rw [if_neg c4] at H
    have c4b0 : (x1000_1.toList == ([] : List UInt8)) = false := beq_eq_false_iff_ne.mpr c4
    have c4b1 : (x1000_1.toList != ([] : List UInt8)) = true := bne_iff_ne.mpr c4
    replace H := Option.bind_eq_some_iff.mp H
    obtain ⟨⟨t125, t126⟩, A60, H⟩ := H
    replace H : (if t125 = true then ((media_Text_Skip.f t126).bind fun t127 => ((media_Text_Token.f k1 t127).bind fun bt128 => (if bt128.1.toList = ([] : List UInt8) then (media_Text_Params.j1 k1 x2_1 bt128.1 true bt128.2) else ((media_Text_Take.f bt128.2 (⟨#[61]⟩ : ByteArray)).bind fun bt130 => (media_Text_Params.j1 k1 x2_1 bt128.1 (!bt130.1) bt130.2))))) else (some (([] : List (S50)), false, t126))) = some (r1, r2, r3) := H
    have A6 := Aside0.mk A60
    clear A60
    by_cases c7 : t125 = true
    ·subst c7
     replace H : ((media_Text_Skip.f t126).bind fun t127 => ((media_Text_Token.f k1 t127).bind fun bt128 => (if bt128.1.toList = ([] : List UInt8) then (media_Text_Params.j1 k1 x2_1 bt128.1 true bt128.2) else ((media_Text_Take.f bt128.2 (⟨#[61]⟩ : ByteArray)).bind fun bt130 => (media_Text_Params.j1 k1 x2_1 bt128.1 (!bt130.1) bt130.2))))) = some (r1, r2, r3) := by rw [if_pos rfl] at H; exact H
     replace H := Option.bind_eq_some_iff.mp H
     obtain ⟨t127, A80, H⟩ := H
     replace H : ((media_Text_Token.f k1 t127).bind fun bt128 => (if bt128.1.toList = ([] : List UInt8) then (media_Text_Params.j1 k1 x2_1 bt128.1 true bt128.2) else ((media_Text_Take.f bt128.2 (⟨#[61]⟩ : ByteArray)).bind fun bt130 => (media_Text_Params.j1 k1 x2_1 bt128.1 (!bt130.1) bt130.2)))) = some (r1, r2, r3) := H
     have A8 := Aside0.mk A80
     clear A80
     replace H := Option.bind_eq_some_iff.mp H
     obtain ⟨⟨t128, t129⟩, A90, H⟩ := H
     replace H : (if t128.toList = ([] : List UInt8) then (media_Text_Params.j1 k1 x2_1 t128 true t129) else ((media_Text_Take.f t129 (⟨#[61]⟩ : ByteArray)).bind fun bt130 => (media_Text_Params.j1 k1 x2_1 t128 (!bt130.1) bt130.2))) = some (r1, r2, r3) := H
     have A9 := Aside0.mk A90
     clear A90
     have HC10 := Aside0.mk H
     clear H
     obtain ⟨HGz11, hgz11⟩ := HI0.out
     have hcz11_0 := cellS85_0 HGz11
     have hfz11_0 := blk_frozen HGz11 0
     clear HGz11 hgz11
     go_upto_region 8 with (first | ((with_reducible refine gate_callee (f := 53) rfl ?_); refine goesL_ (some 16) rfl rfl Tryz.func53 zb9 rfl #[.pointer (some ⟨g, 0, none⟩), .string (⟨#[59]⟩ : ByteArray)] rfl zb2 ?_; (with_reducible refine (media_Text_Take.calls g x1000_1 (⟨#[59]⟩ : ByteArray) true t126 w0 _ ?side1 ?side2 A6.out).mono ?_); (case side1 => repeat (first | (with_reducible first | exact HI0.out | apply IsS85.alloc | apply IsS85.drewN | apply IsS85.drew | apply IsS85.set_0) | exact HI0.out)); (case side2 => repeat (first | (with_reducible first | exact HB.out | apply below_alloc | apply pw_below_drewN | apply below_drew1 | refine below_set ?_ (IsS85.ge HI0.out)) | exact HB.out)); rintro e w12 ⟨rfl, hi, hb, hk⟩; refine ⟨_, rfl, ?_⟩; have n0_ := Aside0.mk (Kd.R_mono (Kd.R_keep (IsS85.apart (show IsS85 w0 _ g x1000_1 from by repeat (first | (with_reducible first | exact HI0.out | apply IsS85.alloc | apply IsS85.drewN | apply IsS85.drew | apply IsS85.set_0) | exact HI0.out)) zb32 zb47) hk (fun _ h => h.2)) (fun _ h => h.1)); have n1_ := Aside0.mk (KeepBut.trans zb14 hk (.inl rfl)); have n2_ := Aside0.mk (hb); have n3_ := Aside0.mk (hi); clear HO_2; clear HK; clear HB; clear HI0; have HO_2 := n0_; have HK := n1_; have HB := n2_; have HI0 := n3_; clear n0_ n1_ n2_ n3_; (try clear hb); (try clear hb2); (try clear hk); (try clear hi)) | ((with_reducible refine gate_callee (f := 51) rfl ?_); refine goesL_ (some 19) rfl rfl Tryz.func51 zb9 rfl #[.pointer (some ⟨g, 0, none⟩)] rfl zb2 ?_; (with_reducible refine (media_Text_Skip.calls g t126 t127 w0 _ ?side1 ?side2 A8.out).mono ?_); (case side1 => repeat (first | (with_reducible first | exact HI0.out | apply IsS85.alloc | apply IsS85.drewN | apply IsS85.drew | apply IsS85.set_0) | exact HI0.out)); (case side2 => repeat (first | (with_reducible first | exact HB.out | apply below_alloc | apply pw_below_drewN | apply below_drew1 | refine below_set ?_ (IsS85.ge HI0.out)) | exact HB.out)); rintro e w13 ⟨rfl, hi, hb, hk⟩; refine ⟨_, rfl, ?_⟩; have n0_ := Aside0.mk (Kd.R_mono (Kd.R_keep (IsS85.apart (show IsS85 w0 _ g t126 from by repeat (first | (with_reducible first | exact HI0.out | apply IsS85.alloc | apply IsS85.drewN | apply IsS85.drew | apply IsS85.set_0) | exact HI0.out)) zb32 zb47) hk (fun _ h => h.2)) (fun _ h => h.1)); have n1_ := Aside0.mk (KeepBut.trans zb14 hk (.inl rfl)); have n2_ := Aside0.mk (hb); have n3_ := Aside0.mk (hi); clear HO_2; clear HK; clear HB; clear HI0; have HO_2 := n0_; have HK := n1_; have HB := n2_; have HI0 := n3_; clear n0_ n1_ n2_ n3_; (try clear hb); (try clear hb2); (try clear hk); (try clear hi)) | ((with_reducible refine gate_callee (f := 52) rfl ?_); refine goesL_ (some 21) rfl rfl Tryz.func52 zb9 rfl #[.pointer (some ⟨g, 0, none⟩)] rfl zb2 ?_; (with_reducible refine (media_Text_Token.calls k1 g t127 t128 t129 w0 _ ?side1 ?side2 A9.out).mono ?_); (case side1 => repeat (first | (with_reducible first | exact HI0.out | apply IsS85.alloc | apply IsS85.drewN | apply IsS85.drew | apply IsS85.set_0) | exact HI0.out)); (case side2 => repeat (first | (with_reducible first | exact HB.out | apply below_alloc | apply pw_below_drewN | apply below_drew1 | refine below_set ?_ (IsS85.ge HI0.out)) | exact HB.out)); rintro e w14 ⟨rfl, hi, hb, hk⟩; refine ⟨_, rfl, ?_⟩; have n0_ := Aside0.mk (Kd.R_mono (Kd.R_keep (IsS85.apart (show IsS85 w0 _ g t127 from by repeat (first | (with_reducible first | exact HI0.out | apply IsS85.alloc | apply IsS85.drewN | apply IsS85.drew | apply IsS85.set_0) | exact HI0.out)) zb32 zb47) hk (fun _ h => h.2)) (fun _ h => h.1)); have n1_ := Aside0.mk (KeepBut.trans zb14 hk (.inl rfl)); have n2_ := Aside0.mk (hb); have n3_ := Aside0.mk (hi); clear HO_2; clear HK; clear HB; clear HI0; have HO_2 := n0_; have HK := n1_; have HB := n2_; have HI0 := n3_; clear n0_ n1_ n2_ n3_; (try clear hb); (try clear hb2); (try clear hk); (try clear hi)))
     (try simp only [Act.put, List.setIfInBounds_toArray, List.set_cons_zero, List.set_cons_succ])
     go_cut [28] (fun v28 wc => ∃ (kq : Nat) (x28_9 : Bool) (x1000_9 : ByteArray), v28 = .bool x28_9 ∧ Aside0 (media_Text_Params.j1 kq x2_1 t128 x28_9 x1000_9 = some (r1, r2, r3)) ∧ Aside0 (kq ≤ k1) ∧ Aside0 (Kd.R k50 50 wc w.heap.size (fun _ => True) u2 x2_1) ∧ Aside0 (IsS85 w0 wc g x1000_9) ∧ Aside0 (KeepBut w wc g none) ∧ Aside0 (Below w0.heap.size w0 wc))
     case first =>
      have H := HC10.out
      clear HC10
      by_cases c15 : t128.toList = ([] : List UInt8)
      ·rw [if_pos c15] at H
       have c15b0 : (t128.toList == ([] : List UInt8)) = true := beq_iff_eq.mpr c15
       have c15b1 : (t128.toList != ([] : List UInt8)) = false := bne_eq_false_iff_eq.mpr c15
       clear c15
       (first | rw [c15b0] | (simp only [i64_w, i32_w]; rw [c15b0]) | skip)
       have H' := Aside0.mk H
       clear H
       go_wp2
       go_meet
       case rel => exact ⟨_, (true), (t129), zb4, H', ⟨by have := HK1.out; first | omega | exact Nat.le_refl _⟩, ⟨by (with_reducible repeat (first | apply Kd.R_alloc | apply Kd.R_drewN | apply Kd.R_drew)); exact HO_2.out⟩, ⟨by repeat (first | (with_reducible first | exact HI0.out | apply IsS85.alloc | apply IsS85.drewN | apply IsS85.drew | apply IsS85.set_0) | exact HI0.out)⟩, ⟨by repeat (first | (with_reducible first | exact HK.out | apply KeepBut.set_ | apply keep_drewN | apply keep_drew | apply keep_alloc) | exact HK.out)⟩, ⟨by repeat (first | (with_reducible first | exact HB.out | apply below_alloc | apply pw_below_drewN | apply below_drew1 | refine below_set ?_ (IsS85.ge HI0.out)) | exact HB.out)⟩⟩
      ·rw [if_neg c15] at H
       have c15b0 : (t128.toList == ([] : List UInt8)) = false := beq_eq_false_iff_ne.mpr c15
       have c15b1 : (t128.toList != ([] : List UInt8)) = true := bne_iff_ne.mpr c15
       (first | rw [c15b0] | (simp only [i64_w, i32_w]; rw [c15b0]) | skip)
       replace H := Option.bind_eq_some_iff.mp H
       obtain ⟨⟨t130, t131⟩, A160, H⟩ := H
       replace H : (media_Text_Params.j1 k1 x2_1 t128 (!t130) t131) = some (r1, r2, r3) := H
       have A16 := Aside0.mk A160
       clear A160
       have H' := Aside0.mk H
       clear H
       go_wp2_with (first | (go_at_call 53; (with_reducible refine (media_Text_Take.calls g t129 (⟨#[61]⟩ : ByteArray) t130 t131 w0 _ ?side1 ?side2 A16.out).mono ?_); (case side1 => repeat (first | (with_reducible first | exact HI0.out | apply IsS85.alloc | apply IsS85.drewN | apply IsS85.drew | apply IsS85.set_0) | exact HI0.out)); (case side2 => repeat (first | (with_reducible first | exact HB.out | apply below_alloc | apply pw_below_drewN | apply below_drew1 | refine below_set ?_ (IsS85.ge HI0.out)) | exact HB.out)); rintro e w17 ⟨rfl, hi, hb, hk⟩; have n0_ := Aside0.mk (Kd.R_mono (Kd.R_keep (IsS85.apart (show IsS85 w0 _ g t129 from by repeat (first | (with_reducible first | exact HI0.out | apply IsS85.alloc | apply IsS85.drewN | apply IsS85.drew | apply IsS85.set_0) | exact HI0.out)) zb32 zb47) hk (fun _ h => h.2)) (fun _ h => h.1)); have n1_ := Aside0.mk (KeepBut.trans zb14 hk (.inl rfl)); have n2_ := Aside0.mk (hb); have n3_ := Aside0.mk (hi); clear HO_2; clear HK; clear HB; clear HI0; have HO_2 := n0_; have HK := n1_; have HB := n2_; have HI0 := n3_; clear n0_ n1_ n2_ n3_; (try clear hb); (try clear hb2); (try clear hk); (try clear hi)))
       go_meet
       case rel => exact ⟨_, (!t130), (t131), zb4, H', ⟨by have := HK1.out; first | omega | exact Nat.le_refl _⟩, ⟨by (with_reducible repeat (first | apply Kd.R_alloc | apply Kd.R_drewN | apply Kd.R_drew)); exact HO_2.out⟩, ⟨by repeat (first | (with_reducible first | exact HI0.out | apply IsS85.alloc | apply IsS85.drewN | apply IsS85.drew | apply IsS85.set_0) | exact HI0.out)⟩, ⟨by repeat (first | (with_reducible first | exact HK.out | apply KeepBut.set_ | apply keep_drewN | apply keep_drew | apply keep_alloc) | exact HK.out)⟩, ⟨by repeat (first | (with_reducible first | exact HB.out | apply below_alloc | apply pw_below_drewN | apply below_drew1 | refine below_set ?_ (IsS85.ge HI0.out)) | exact HB.out)⟩⟩
     case rest =>
      clear HC10
      try clear c1
      try clear p2
      try clear c4
      try clear c4b0
      try clear c4b1
      try clear c5
      try clear c7
      try clear c15
      try clear c15b0
      try clear c15b1
      try clear hcz11_0
      try clear hcz5_0
      try clear hfz11_0
      try clear hfz5_0
      try clear p2
      obtain ⟨kq, x28_9, x1000_9, rfl, HA, HJ9, HO_2, HI0, HK, HB⟩ := hcut
      cases kq with
      | zero => exact absurd HA.out (by simp [media_Text_Params.j1])
      | succ kj9 =>
       have H := HA.out
       clear HA
       simp only [media_Text_Params.j1] at H
       by_cases c18 : x28_9 = true
       ·subst c18
        replace H : (some (([] : List (S50)), false, x1000_9)) = some (r1, r2, r3) := by rw [if_pos rfl] at H; exact H
        simp only [Option.some.injEq, Prod.mk.injEq] at H
        obtain ⟨rfl, rfl, rfl⟩ := H
        go_wp2
        go_ret2
        exact ⟨_, by first | rfl | (simp [errW_none, errW_some, bne_nil_] <;> rfl) | (simp [*, errW_none, errW_some] <;> rfl), by first | exact Kd.R_nil _ _ _ _ _ | exact Kd.N_nil _ _ _ _ _ | exact Kd.V_nil _ _ _ _ _ | exact Kd.Q_nil _ _ _ _ _ | exact Kd.S_nil _ _ _ _ _, by repeat (first | (with_reducible first | exact HI0.out | apply IsS85.alloc | apply IsS85.drewN | apply IsS85.drew | apply IsS85.set_0) | exact HI0.out), by repeat (first | (with_reducible first | exact HB.out | apply below_alloc | apply pw_below_drewN | apply below_drew1 | refine below_set ?_ (IsS85.ge HI0.out)) | exact HB.out), by repeat (first | (with_reducible first | exact HK.out | apply KeepBut.set_ | apply keep_drewN | apply keep_drew | apply keep_alloc) | exact HK.out)⟩
       ·replace c18 := Bool.eq_false_iff.mpr c18
        subst c18
        replace H : ((media_Text_Value.f kj9 x1000_9).bind fun bt132 => (if bt132.2.1 = true then ((media_Small.f t128).bind fun t135 => (if x2_1.length < 4398046511104 then ((media_Text_Skip.f bt132.2.2).bind fun t139 => (media_Text_Params.l0 kj9 (x2_1 ++ [(⟨t135, bt132.1⟩ : S50)]) t139)) else (none))) else (some (([] : List (S50)), false, bt132.2.2)))) = some (r1, r2, r3) := by rw [if_neg (show ¬ (false = true) by decide)] at H; exact H
        replace H := Option.bind_eq_some_iff.mp H
        obtain ⟨⟨t132, t133, t134⟩, A190, H⟩ := H
        replace H : (if t133 = true then ((media_Small.f t128).bind fun t135 => (if x2_1.length < 4398046511104 then ((media_Text_Skip.f t134).bind fun t139 => (media_Text_Params.l0 kj9 (x2_1 ++ [(⟨t135, t132⟩ : S50)]) t139)) else (none))) else (some (([] : List (S50)), false, t134))) = some (r1, r2, r3) := H
        have A19 := Aside0.mk A190
        clear A190
        by_cases c20 : t133 = true
        ·subst c20
         replace H : ((media_Small.f t128).bind fun t135 => (if x2_1.length < 4398046511104 then ((media_Text_Skip.f t134).bind fun t139 => (media_Text_Params.l0 kj9 (x2_1 ++ [(⟨t135, t132⟩ : S50)]) t139)) else (none))) = some (r1, r2, r3) := by rw [if_pos rfl] at H; exact H
         replace H := Option.bind_eq_some_iff.mp H
         obtain ⟨t135, A210, H⟩ := H
         replace H : (if x2_1.length < 4398046511104 then ((media_Text_Skip.f t134).bind fun t139 => (media_Text_Params.l0 kj9 (x2_1 ++ [(⟨t135, t132⟩ : S50)]) t139)) else (none)) = some (r1, r2, r3) := H
         have A21 := Aside0.mk A210
         clear A210
         by_cases c22 : x2_1.length < 4398046511104
         ·rw [if_pos c22] at H
          have LMc22 := Aside0.mk c22
          clear c22
          obtain ⟨y136, hy136⟩ : ∃ y_ : List (S50), y_ = (x2_1 ++ [(⟨t135, t132⟩ : S50)]) := ⟨_, rfl⟩
          replace H : ((media_Text_Skip.f t134).bind fun t139 => (media_Text_Params.l0 kj9 y136 t139)) = some (r1, r2, r3) := by first | (rw [hy136]; with_reducible exact H) | (have H2_ := (Option.bind_some _ _).symm.trans H; rw [hy136]; with_reducible exact H2_) | (have H2_ := (Option.bind_some _ _).symm.trans H; with_reducible exact H2_) | with_reducible exact H | (rw [hy136]; exact H) | exact H
          have Ny136 := Aside0.mk hy136
          clear hy136
          replace H := Option.bind_eq_some_iff.mp H
          obtain ⟨t139, A230, H⟩ := H
          replace H : (media_Text_Params.l0 kj9 y136 t139) = some (r1, r2, r3) := H
          have A23 := Aside0.mk A230
          clear A230
          have H' := Aside0.mk H
          clear H
          go_wp2_with (first | ((with_reducible refine gate_callee (f := 72) rfl ?_); refine goesL_ (some 31) rfl rfl Tryz.func72 zb9 rfl #[.pointer (some ⟨g, 0, none⟩)] rfl zb2 ?_; (with_reducible refine (media_Text_Value.calls kj9 g x1000_9 t132 true t134 w0 _ ?side1 ?side2 A19.out).mono ?_); (case side1 => repeat (first | (with_reducible first | exact HI0.out | apply IsS85.alloc | apply IsS85.drewN | apply IsS85.drew | apply IsS85.set_0) | exact HI0.out)); (case side2 => repeat (first | (with_reducible first | exact HB.out | apply below_alloc | apply pw_below_drewN | apply below_drew1 | refine below_set ?_ (IsS85.ge HI0.out)) | exact HB.out)); rintro e w24 ⟨rfl, hi, hb, hk⟩; refine ⟨_, rfl, ?_⟩; have n0_ := Aside0.mk (Kd.R_mono (Kd.R_keep (IsS85.apart (show IsS85 w0 _ g x1000_9 from by repeat (first | (with_reducible first | exact HI0.out | apply IsS85.alloc | apply IsS85.drewN | apply IsS85.drew | apply IsS85.set_0) | exact HI0.out)) zb32 zb47) hk (fun _ h => h.2)) (fun _ h => h.1)); have n1_ := Aside0.mk (KeepBut.trans zb14 hk (.inl rfl)); have n2_ := Aside0.mk (hb); have n3_ := Aside0.mk (hi); clear HO_2; clear HK; clear HB; clear HI0; have HO_2 := n0_; have HK := n1_; have HB := n2_; have HI0 := n3_; clear n0_ n1_ n2_ n3_; (try clear hb); (try clear hb2); (try clear hk); (try clear hi)) | ((with_reducible refine gate_callee (f := 55) rfl ?_); refine goesL_ (some 38) rfl rfl Tryz.func55 zb9 rfl #[.string t128] rfl zb2 ?_; (with_reducible refine (media_Small.calls t128 t135 _ A21.out).mono ?_); rintro e w25 ⟨rfl, hb⟩; refine ⟨_, rfl, ?_⟩; have n0_ := Aside0.mk (Kd.R_below zb32 hb); have n1_ := Aside0.mk (IsS85.below zb44 hb); have n2_ := Aside0.mk (KeepBut.trans zb14 (KeepBut.of_below hb g none) (.inl rfl)); have n3_ := Aside0.mk (below_step zb38 hb); clear HO_2; clear HI0; clear HK; clear HB; have HO_2 := n0_; have HI0 := n1_; have HK := n2_; have HB := n3_; clear n0_ n1_ n2_ n3_; (try clear hb); (try clear hb2); (try clear hk); (try clear hi)) | ((with_reducible refine gate_builtin (b := .append) (xs := #[.tmp 36, .tmp 41]) rfl ?_); at_builtin; refine Kd.R_append k50 w.heap.size rfl (.tmp 36) (.tmp 41) 38 50 (.agg #[(.string ⟨#[]⟩), (.string ⟨#[]⟩)]) 32 rfl Tryz.underlying38 info50 rfl zb47 zb42 u2 x2_1 (⟨t135, t132⟩ : S50) [.string t135, .string t132] (fun _ => True) (fun _ => False) rfl rfl ?aP (fun _ hk => hk.elim) ?aF ?aO (Below.refl _ _) ?aS ?aL ?_; (case aP => exact k50_mkM _ _ _ (⟨t135, t132⟩ : S50)); (case aF => exact (fun _ _ => trivial)); (case aO => exact zb32); (case aS => exact (keep_size (w := w) (g := g) (row := none) zb14)); (case aL => have := LMc22.out; omega); intro v137 w26 ho hb hg hat; rw [← Ny136.out] at ho; have n0_ := Aside0.mk (IsS85.grown zb44 hg (IsS85.own_far HI0.out HO_2.out zb47)); have n1_ := Aside0.mk (below_weaken zb38 HL.out hb); have n2_ := Aside0.mk (KeepBut.trans zb14 (KeepBut.of_grown hg g) (Kd.R_base2 HO_2.out)); have n3_ := Aside0.mk (ho); clear HI0; clear HB; clear HK; clear HO_2; have HI0 := n0_; have HB := n1_; have HK := n2_; have HO138 := n3_; clear n0_ n1_ n2_ n3_; clear ho hb hg hat) | ((with_reducible refine gate_callee (f := 51) rfl ?_); refine goesL_ (some 14) rfl rfl Tryz.func51 zb9 rfl #[.pointer (some ⟨g, 0, none⟩)] rfl zb2 ?_; (with_reducible refine (media_Text_Skip.calls g t134 t139 w0 _ ?side1 ?side2 A23.out).mono ?_); (case side1 => repeat (first | (with_reducible first | exact HI0.out | apply IsS85.alloc | apply IsS85.drewN | apply IsS85.drew | apply IsS85.set_0) | exact HI0.out)); (case side2 => repeat (first | (with_reducible first | exact HB.out | apply below_alloc | apply pw_below_drewN | apply below_drew1 | refine below_set ?_ (IsS85.ge HI0.out)) | exact HB.out)); rintro e w27 ⟨rfl, hi, hb, hk⟩; refine ⟨_, rfl, ?_⟩; have n0_ := Aside0.mk (Kd.R_mono (Kd.R_keep (IsS85.apart (show IsS85 w0 _ g t134 from by repeat (first | (with_reducible first | exact HI0.out | apply IsS85.alloc | apply IsS85.drewN | apply IsS85.drew | apply IsS85.set_0) | exact HI0.out)) (by (with_reducible repeat (first | apply Kd.R_alloc | apply Kd.R_drewN | apply Kd.R_drew)); exact HO138.out) zb47) hk (fun _ h => h.2)) (fun _ h => h.1)); have n1_ := Aside0.mk (KeepBut.trans zb14 hk (.inl rfl)); have n2_ := Aside0.mk (hb); have n3_ := Aside0.mk (hi); clear HO138; clear HK; clear HB; clear HI0; have HO138 := n0_; have HK := n1_; have HB := n2_; have HI0 := n3_; clear n0_ n1_ n2_ n3_; (try clear hb); (try clear hb2); (try clear hk); (try clear hi)))
          go_roundg kj9
          case measure => have := HK1.out; have := HJ9.out; omega
          case rel => exact ⟨(y136), (t139), H', ⟨by have := HK1.out; have := HJ9.out; omega⟩, ⟨by (with_reducible repeat (first | apply Kd.R_alloc | apply Kd.R_drewN | apply Kd.R_drew)); exact HO138.out⟩, ⟨by repeat (first | (with_reducible first | exact HI0.out | apply IsS85.alloc | apply IsS85.drewN | apply IsS85.drew | apply IsS85.set_0) | exact HI0.out)⟩, ⟨by repeat (first | (with_reducible first | exact HK.out | apply KeepBut.set_ | apply keep_drewN | apply keep_drew | apply keep_alloc) | exact HK.out)⟩, ⟨by repeat (first | (with_reducible first | exact HB.out | apply below_alloc | apply pw_below_drewN | apply below_drew1 | refine below_set ?_ (IsS85.ge HI0.out)) | exact HB.out)⟩⟩
         ·rw [if_neg c22] at H
          exact absurd H zb45
        ·replace c20 := Bool.eq_false_iff.mpr c20
         subst c20
         replace H : (some (([] : List (S50)), false, t134)) = some (r1, r2, r3) := by rw [if_neg (show ¬ (false = true) by decide)] at H; exact H
         simp only [Option.some.injEq, Prod.mk.injEq] at H
         obtain ⟨rfl, rfl, rfl⟩ := H
         go_wp2_with (first | ((with_reducible refine gate_callee (f := 72) rfl ?_); refine goesL_ (some 31) rfl rfl Tryz.func72 zb9 rfl #[.pointer (some ⟨g, 0, none⟩)] rfl zb2 ?_; (with_reducible refine (media_Text_Value.calls kj9 g x1000_9 t132 false t134 w0 _ ?side1 ?side2 A19.out).mono ?_); (case side1 => repeat (first | (with_reducible first | exact HI0.out | apply IsS85.alloc | apply IsS85.drewN | apply IsS85.drew | apply IsS85.set_0) | exact HI0.out)); (case side2 => repeat (first | (with_reducible first | exact HB.out | apply below_alloc | apply pw_below_drewN | apply below_drew1 | refine below_set ?_ (IsS85.ge HI0.out)) | exact HB.out)); rintro e w28 ⟨rfl, hi, hb, hk⟩; refine ⟨_, rfl, ?_⟩; have n0_ := Aside0.mk (Kd.R_mono (Kd.R_keep (IsS85.apart (show IsS85 w0 _ g x1000_9 from by repeat (first | (with_reducible first | exact HI0.out | apply IsS85.alloc | apply IsS85.drewN | apply IsS85.drew | apply IsS85.set_0) | exact HI0.out)) zb32 zb47) hk (fun _ h => h.2)) (fun _ h => h.1)); have n1_ := Aside0.mk (KeepBut.trans zb14 hk (.inl rfl)); have n2_ := Aside0.mk (hb); have n3_ := Aside0.mk (hi); clear HO_2; clear HK; clear HB; clear HI0; have HO_2 := n0_; have HK := n1_; have HB := n2_; have HI0 := n3_; clear n0_ n1_ n2_ n3_; (try clear hb); (try clear hb2); (try clear hk); (try clear hi)))
         go_ret2
         exact ⟨_, by first | rfl | (simp [errW_none, errW_some, bne_nil_] <;> rfl) | (simp [*, errW_none, errW_some] <;> rfl), by first | exact Kd.R_nil _ _ _ _ _ | exact Kd.N_nil _ _ _ _ _ | exact Kd.V_nil _ _ _ _ _ | exact Kd.Q_nil _ _ _ _ _ | exact Kd.S_nil _ _ _ _ _, by repeat (first | (with_reducible first | exact HI0.out | apply IsS85.alloc | apply IsS85.drewN | apply IsS85.drew | apply IsS85.set_0) | exact HI0.out), by repeat (first | (with_reducible first | exact HB.out | apply below_alloc | apply pw_below_drewN | apply below_drew1 | refine below_set ?_ (IsS85.ge HI0.out)) | exact HB.out), by repeat (first | (with_reducible first | exact HK.out | apply KeepBut.set_ | apply keep_drewN | apply keep_drew | apply keep_alloc) | exact HK.out)⟩
    ·replace c7 := Bool.eq_false_iff.mpr c7
     subst c7
     replace H : (some (([] : List (S50)), false, t126)) = some (r1, r2, r3) := by rw [if_neg (show ¬ (false = true) by decide)] at H; exact H
     simp only [Option.some.injEq, Prod.mk.injEq] at H
     obtain ⟨rfl, rfl, rfl⟩ := H
     obtain ⟨HGz29, hgz29⟩ := HI0.out
     have hcz29_0 := cellS85_0 HGz29
     have hfz29_0 := blk_frozen HGz29 0
     clear HGz29 hgz29
     go_wp2_with (first | ((with_reducible refine gate_callee (f := 53) rfl ?_); refine goesL_ (some 16) rfl rfl Tryz.func53 zb9 rfl #[.pointer (some ⟨g, 0, none⟩), .string (⟨#[59]⟩ : ByteArray)] rfl zb2 ?_; (with_reducible refine (media_Text_Take.calls g x1000_1 (⟨#[59]⟩ : ByteArray) false t126 w0 _ ?side1 ?side2 A6.out).mono ?_); (case side1 => repeat (first | (with_reducible first | exact HI0.out | apply IsS85.alloc | apply IsS85.drewN | apply IsS85.drew | apply IsS85.set_0) | exact HI0.out)); (case side2 => repeat (first | (with_reducible first | exact HB.out | apply below_alloc | apply pw_below_drewN | apply below_drew1 | refine below_set ?_ (IsS85.ge HI0.out)) | exact HB.out)); rintro e w30 ⟨rfl, hi, hb, hk⟩; refine ⟨_, rfl, ?_⟩; have n0_ := Aside0.mk (Kd.R_mono (Kd.R_keep (IsS85.apart (show IsS85 w0 _ g x1000_1 from by repeat (first | (with_reducible first | exact HI0.out | apply IsS85.alloc | apply IsS85.drewN | apply IsS85.drew | apply IsS85.set_0) | exact HI0.out)) zb32 zb47) hk (fun _ h => h.2)) (fun _ h => h.1)); have n1_ := Aside0.mk (KeepBut.trans zb14 hk (.inl rfl)); have n2_ := Aside0.mk (hb); have n3_ := Aside0.mk (hi); clear HO_2; clear HK; clear HB; clear HI0; have HO_2 := n0_; have HK := n1_; have HB := n2_; have HI0 := n3_; clear n0_ n1_ n2_ n3_; (try clear hb); (try clear hb2); (try clear hk); (try clear hi)))
     go_ret2
     exact ⟨_, by first | rfl | (simp [errW_none, errW_some, bne_nil_] <;> rfl) | (simp [*, errW_none, errW_some] <;> rfl), by first | exact Kd.R_nil _ _ _ _ _ | exact Kd.N_nil _ _ _ _ _ | exact Kd.V_nil _ _ _ _ _ | exact Kd.Q_nil _ _ _ _ _ | exact Kd.S_nil _ _ _ _ _, by repeat (first | (with_reducible first | exact HI0.out | apply IsS85.alloc | apply IsS85.drewN | apply IsS85.drew | apply IsS85.set_0) | exact HI0.out), by repeat (first | (with_reducible first | exact HB.out | apply below_alloc | apply pw_below_drewN | apply below_drew1 | refine below_set ?_ (IsS85.ge HI0.out)) | exact HB.out), by repeat (first | (with_reducible first | exact HK.out | apply KeepBut.set_ | apply keep_drewN | apply keep_drew | apply keep_alloc) | exact HK.out)⟩
end Go.Proofs.YtghfbhobpodoeaaGreatDoor.P
/- SpA -/
namespace Go.Proofs.YtghfbhobpodoeaaGreatDoor.Sp
open Go
set_option linter.unusedVariables false
set_option linter.unusedSimpArgs false
abbrev L := List UInt8
def ctl (c : UInt8) : Bool := decide (c.toNat < 32) && !(c == 9) || c == 127
def bl (c : UInt8) : Bool := c == 32 || c == 9
def signs : L := [48, 49, 50, 51, 52, 53, 54, 55, 56, 57, 65, 66, 67, 68, 69, 70, 71, 72, 73, 74, 75, 76, 77, 78, 79, 80, 81, 82, 83, 84, 85, 86, 87, 88, 89, 90, 97, 98, 99, 100, 101, 102, 103, 104, 105, 106, 107, 108, 109, 110, 111, 112, 113, 114, 115, 116, 117, 118, 119, 120, 121, 122, 33, 35, 36, 37, 38, 39, 42, 43, 45, 46, 94, 95, 96, 124, 126]
def tokB (c : UInt8) : Bool := signs.contains c
def lowB (c : UInt8) : UInt8 := if 65 ≤ c.toNat ∧ c.toNat ≤ 90 then UInt8.ofNat (c.toNat + 32) else c
def low (s : L) : L := s.map lowB
def hexV (c : UInt8) : Option Nat := if 48 ≤ c.toNat ∧ c.toNat ≤ 57 then some (c.toNat - 48) else if 65 ≤ c.toNat ∧ c.toNat ≤ 70 then some (c.toNat - 55) else if 97 ≤ c.toNat ∧ c.toNat ≤ 102 then some (c.toNat - 87) else none
def hexB (c : UInt8) : Bool := (hexV c).isSome
def tok (s : L) : L × L := (s.takeWhile tokB, s.dropWhile tokB)
def skip (s : L) : L := s.dropWhile bl
def quoted : L → Option (L × L)
  | [] => none
  | c :: r => if c = 34 then some ([], r) else if c = 92 then (match r with
      | [] => none
      | d :: r' => if ctl d = true then none else (quoted r').map fun p => (d :: p.1, p.2))
    else if ctl c = true then none else (quoted r).map fun p => (c :: p.1, p.2)
def value (s : L) : Option (L × L) := if s.head? = some 34 then quoted s.tail else if (tok s).1 = [] then none else some (tok s)
def params : Nat → L → Option (List (L × L))
  | 0, _ => none
  | f + 1, s => if skip s = [] then some [] else if (skip s).head? ≠ some 59 then none else
      if (tok (skip (skip s).tail)).1 = [] then none else if (tok (skip (skip s).tail)).2.head? ≠ some 61 then none else
      match value (tok (skip (skip s).tail)).2.tail with
      | none => none
      | some (v, rest) => (params f rest).map ((low (tok (skip (skip s).tail)).1, v) :: ·)
def pars (s : L) : Option (List (L × L)) := params (s.length + 1) s
def line : L → Option (L × L)
  | [] => none
  | c :: r => if c = 13 ∧ r.head? = some 10 then some ([], r.tail) else (line r).map fun p => (c :: p.1, p.2)
def trim (s : L) : L := (skip (skip s).reverse).reverse
def fval (s : L) : Bool := s.all (fun c => !ctl c) && decide (trim s = s)
def pairOf (l : L) : Option (L × L) := if (tok l).1 = [] then none else if (tok l).2.head? ≠ some 58 then none else if fval (trim (tok l).2.tail) = true then some (low (tok l).1, trim (tok l).2.tail) else none
/-- The fields, what stands behind them, the error (0: none); N: how long all of it is. -/
def fparse (N : Nat) : Nat → L → List (L × L) → List (L × L) × L × Int
  | 0, _, _ => ([], [], 180)
  | f + 1, s, acc => match line s with
    | none => ([], [], if N > 8000 then 2 else 180)
    | some (l, more) => if N - more.length > 8000 then ([], [], if N > 8000 then 2 else 180) else if l = [] then (acc, more, 0) else match pairOf l with
      | none => ([], [], 180)
      | some p => fparse N f more (acc ++ [p])
def fields (s : L) : List (L × L) × L × Int := fparse s.length (s.length + 1) s []
def hexN (d : L) : Nat := d.foldl (fun n c => n * 16 + (hexV c).getD 0) 0
def csize (l : L) : Option Nat := if l.takeWhile hexB = [] ∨ 8 < (l.takeWhile hexB).length ∨ pars (l.dropWhile hexB) = none then none else some (hexN (l.takeWhile hexB))
/-- The body, what stands behind it, the error. -/
def decode : Nat → L → L → L × L × Int
  | 0, _, _ => ([], [], 190)
  | f + 1, s, acc => match line s with
    | none => ([], [], 190)
    | some (l, more) => match csize l with
      | none => ([], [], 190)
      | some n => if n = 0 then (if (fields more).2.2 = 0 then (acc, (fields more).2.1, 0) else ([], [], 190))
        else if n + acc.length > 100000 then ([], [], 2)
        else if more.length < n then ([], [], 190)
        else if (more.drop n).take 2 ≠ [13, 10] then ([], [], 190)
        else decode f (more.drop (n + 2)) (acc ++ more.take n)
def hexC (n : Nat) : UInt8 := if n < 10 then UInt8.ofNat (48 + n) else UInt8.ofNat (87 + n)
def hexD (n : Nat) : L := if h : n < 16 then [hexC n] else hexD (n / 16) ++ [hexC (n % 16)]
termination_by n
decreasing_by omega
def encode : Nat → L → Nat → L
  | 0, _, _ => []
  | f + 1, s, n => if s = [] then [48, 13, 10, 13, 10] else hexD (min n s.length) ++ [13, 10] ++ s.take n ++ [13, 10] ++ encode f (s.drop n) n
def enc (s : L) (n : Nat) : L := encode (s.length + 1) s n
end Go.Proofs.YtghfbhobpodoeaaGreatDoor.Sp
/- By -/
namespace Go.Proofs.YtghfbhobpodoeaaGreatDoor.Sp
open Go Go.RowKit Go.Proofs.YtghfbhobpodoeaaGreatDoorW.PrintWords Go.Proofs.YtghfbhobpodoeaaGreatDoorW.PrintLast Go.Proofs.YtghfbhobpodoeaaGreatDoor.O
set_option linter.unusedVariables false
set_option linter.unusedSimpArgs false
def mk (l : L) : ByteArray := ⟨l.toArray⟩
theorem mk_data (l : L) : (mk l).data.toList = l := by simp [mk]
theorem mk_self (s : ByteArray) : mk s.data.toList = s := by cases s; simp [mk]
theorem ba_ext {a b : ByteArray} (h : a.data.toList = b.data.toList) : a = b := by rw [← mk_self a, ← mk_self b, h]
theorem mk_size (l : L) : (mk l).size = l.length := by rw [Lib.size_eq, mk_data]
theorem mk_append (a b : L) : mk a ++ mk b = mk (a ++ b) := ba_ext (by simp [mk_data])
theorem ext_sub (s : ByteArray) (a b : Nat) : s.extract a b = mk ((s.data.toList.drop a).take (b - a)) := ba_ext (by rw [Lib.extract_data, mk_data])
theorem ext_mk (l : L) (a b : Nat) : (mk l).extract a b = mk ((l.drop a).take (b - a)) := by rw [ext_sub, mk_data]
theorem ext_to (l : L) (a : Nat) : (mk l).extract 0 a = mk (l.take a) := by rw [ext_mk]; rfl
theorem ext_from (l : L) (a : Nat) : (mk l).extract a (mk l).size = mk (l.drop a) := by rw [ext_mk, mk_size, List.take_of_length_le (by rw [List.length_drop]; omega)]
theorem tl (s : ByteArray) : s.toList = s.data.toList := Lib.toList_data s
theorem tl_mk (l : L) : (mk l).toList = l := by rw [tl, mk_data]
theorem wrap_id {x : Int} (h1 : -9223372036854775808 ≤ x) (h2 : x ≤ 9223372036854775807) : wrap64 x = x := by unfold wrap64; omega
/-- The byte at a place, the rest of the text beside it. -/
theorem drop_bt (s : ByteArray) (i : Nat) (h : i < s.size) : ∃ b : UInt8, s.data.toList.drop i = b :: s.data.toList.drop (i + 1) ∧ bt s i = b.toNat := by
  have h' : i < s.data.toList.length := by rw [← Lib.size_eq]; exact h
  refine ⟨s.data.toList[i], List.drop_eq_getElem_cons h', ?_⟩
  rw [← bt_getD s i h, List.getD_eq_getElem?_getD, List.getElem?_eq_getElem h']
  rfl
theorem mk_bt (l : L) (i : Nat) (h : i < l.length) : ∃ b : UInt8, l.drop i = b :: l.drop (i + 1) ∧ bt (mk l) i = b.toNat := by
  have := drop_bt (mk l) i (by rw [mk_size]; exact h)
  rwa [mk_data] at this
theorem bt_head (c : UInt8) (r : L) : bt (mk (c :: r)) 0 = c.toNat := by
  obtain ⟨b, e1, e2⟩ := mk_bt (c :: r) 0 zb45
  simp at e1
  rw [← e1] at e2
  exact e2
theorem u8_eq (c : UInt8) (n : Nat) (h : n < 256) : c.toNat = n ↔ c = UInt8.ofNat n := by
  constructor
  · intro e
    apply UInt8.toNat_inj.1
    rw [e, UInt8.toNat_ofNat']
    omega
  · intro e
    rw [e, UInt8.toNat_ofNat']
    omega
theorem u8i (c : UInt8) (n : Nat) (h : n < 256) : ((c.toNat : Int) = (n : Int)) ↔ c = UInt8.ofNat n := by
  rw [← u8_eq c n h]
  omega
def pairsB (l : List (L × L)) : List P.S50 := l.map fun p => ⟨mk p.1, mk p.2⟩
theorem pairsB_app (a b : List (L × L)) : pairsB (a ++ b) = pairsB a ++ pairsB b := by simp [pairsB]
theorem pairsB_len (a : List (L × L)) : (pairsB a).length = a.length := by simp [pairsB]
end Go.Proofs.YtghfbhobpodoeaaGreatDoor.Sp
/- SpC -/
namespace Go.Proofs.YtghfbhobpodoeaaGreatDoor.Sp
open Go Go.RowKit Go.Proofs.YtghfbhobpodoeaaGreatDoorW.PrintWords Go.Proofs.YtghfbhobpodoeaaGreatDoorW.PrintLast Go.Proofs.YtghfbhobpodoeaaGreatDoor.O Go.Proofs.YtghfbhobpodoeaaGreatDoor.P
set_option linter.unusedVariables false
set_option linter.unusedSimpArgs false
theorem sig_all : ∀ a : Fin 256, (decide (Lib.indexByte signs (UInt8.ofNat a.val) ≥ 0)) = signs.contains (UInt8.ofNat a.val) := by decide +kernel
theorem u8_fin (c : UInt8) : ∃ a : Fin 256, c = UInt8.ofNat a.val := ⟨⟨c.toNat, c.toNat_lt⟩, by simp⟩
theorem sig_index (c : UInt8) : Lib.indexByte signs c ≥ 0 ↔ tokB c = true := by
  obtain ⟨a, rfl⟩ := u8_fin c
  have := sig_all a
  unfold tokB
  rw [← this]
  simp
theorem sigF (c : UInt8) : strings_IndexByte.f (mk signs) (c.toNat : Int) = some (Lib.indexByte signs c) := by
  unfold strings_IndexByte.f
  rw [mk_data]
  congr 2
  simp
theorem take_tw (p : UInt8 → Bool) (s : L) : s.take (s.takeWhile p).length = s.takeWhile p := by
  have h : s.takeWhile p ++ s.dropWhile p = s := List.takeWhile_append_dropWhile
  generalize s.takeWhile p = a at *
  generalize s.dropWhile p = b at *
  subst h
  simp
theorem drop_tw (p : UInt8 → Bool) (s : L) : s.drop (s.takeWhile p).length = s.dropWhile p := by
  have h : s.takeWhile p ++ s.dropWhile p = s := List.takeWhile_append_dropWhile
  generalize s.takeWhile p = a at *
  generalize s.dropWhile p = b at *
  subst h
  simp
theorem dw_len (p : UInt8 → Bool) (s : L) : (s.dropWhile p).length ≤ s.length := by
  have h : s.takeWhile p ++ s.dropWhile p = s := List.takeWhile_append_dropWhile
  have := congrArg List.length h
  rw [List.length_append] at this
  omega
theorem tok_l0 (s : L) (hs : s.length ≤ 1000000000000) : ∀ (d k i : Nat), i + d = s.length → d < k →
    media_Text_Token.l0 k i (mk s) = some (mk (s.take (i + ((s.drop i).takeWhile tokB).length)), mk (s.drop (i + ((s.drop i).takeWhile tokB).length))) := by
  intro d
  induction d with
  | zero =>
    intro k i hi hk
    obtain ⟨k, rfl⟩ : ∃ k', k = k' + 1 := ⟨k - 1, by omega⟩
    rw [media_Text_Token.l0, if_neg (by rw [mk_size]; omega), if_pos (by omega), if_pos (by rw [mk_size]; omega), List.drop_eq_nil_of_le (by omega)]
    simp only [Int.toNat_natCast, List.takeWhile_nil, List.length_nil, Nat.add_zero, ext_to, ext_from]
  | succ d ih =>
    intro k i hi hk
    obtain ⟨k, rfl⟩ : ∃ k', k = k' + 1 := ⟨k - 1, by omega⟩
    obtain ⟨b, e1, e2⟩ := mk_bt s i (by omega)
    have hw : wrap64 ((i : Int) + 1) = ((i + 1 : Nat) : Int) := by rw [wrap_id (by omega) (by omega)]; omega
    rw [media_Text_Token.l0, if_pos (by rw [mk_size]; omega), if_pos (by omega), e2]
    rw [show (⟨#[48, 49, 50, 51, 52, 53, 54, 55, 56, 57, 65, 66, 67, 68, 69, 70, 71, 72, 73, 74, 75, 76, 77, 78, 79, 80, 81, 82, 83, 84, 85, 86, 87, 88, 89, 90, 97, 98, 99, 100, 101, 102, 103, 104, 105, 106, 107, 108, 109, 110, 111, 112, 113, 114, 115, 116, 117, 118, 119, 120, 121, 122, 33, 35, 36, 37, 38, 39, 42, 43, 45, 46, 94, 95, 96, 124, 126]⟩ : ByteArray) = mk signs from rfl, sigF]
    simp only [Option.bind_some]
    by_cases ht : tokB b = true
    · rw [if_pos ((sig_index b).2 ht), hw, ih k (i + 1) (by omega) (by omega), e1, List.takeWhile_cons_of_pos ht]
      simp only [List.length_cons]
      rw [show i + 1 + ((s.drop (i + 1)).takeWhile tokB).length = i + (((s.drop (i + 1)).takeWhile tokB).length + 1) by omega]
    · rw [if_neg (fun h => ht ((sig_index b).1 h)), if_pos (by rw [mk_size]; omega), e1, List.takeWhile_cons_of_neg ht]
      simp only [Int.toNat_natCast, List.length_nil, Nat.add_zero, ext_to, ext_from]
theorem tokF (s : L) (k : Nat) (hs : s.length ≤ 1000000000000) (hk : s.length < k) : media_Text_Token.f k (mk s) = some (mk (tok s).1, mk (tok s).2) := by
  unfold media_Text_Token.f
  have := tok_l0 s hs s.length k 0 (by omega) hk
  simp only [List.drop_zero, Nat.zero_add] at this
  rw [show (0 : Int) = ((0 : Nat) : Int) from rfl, this, take_tw, drop_tw]
  rfl
theorem bl_all : ∀ a : Fin 256, ([32, 9] : L).contains (UInt8.ofNat a.val) = bl (UInt8.ofNat a.val) := by decide +kernel
theorem bl_eq : ([32, 9].contains · : UInt8 → Bool) = bl := by
  funext c
  obtain ⟨a, rfl⟩ := u8_fin c
  exact bl_all a
theorem mem_tw {p : UInt8 → Bool} : ∀ {s : L} {x : UInt8}, x ∈ s.takeWhile p → p x = true
  | [], _, h => by simp at h
  | c :: s, x, h => by
    by_cases hc : p c = true
    · rw [List.takeWhile_cons_of_pos hc] at h
      rcases List.mem_cons.1 h with rfl | h
      · exact hc
      · exact mem_tw h
    · rw [List.takeWhile_cons_of_neg hc] at h
      simp at h
theorem rd_app (a b : L) (h : skip b.reverse ≠ []) : skip (a ++ b).reverse = skip b.reverse ++ a.reverse := by
  unfold skip at *
  rw [List.reverse_append]
  generalize b.reverse = u at *
  induction u with
  | nil => simp at h
  | cons c u ih =>
    by_cases hc : bl c = true
    · rw [List.dropWhile_cons_of_pos hc] at h
      rw [List.cons_append, List.dropWhile_cons_of_pos hc, List.dropWhile_cons_of_pos hc]
      exact ih h
    · rw [List.cons_append, List.dropWhile_cons_of_neg hc, List.dropWhile_cons_of_neg hc, List.cons_append]
theorem skip_nil {s : L} (h : skip s = []) : ∀ c ∈ s, bl c = true := by
  induction s with
  | nil => simp
  | cons c s ih =>
    unfold skip at h ih
    by_cases hc : bl c = true
    · rw [List.dropWhile_cons_of_pos hc] at h
      intro d hd
      rcases List.mem_cons.1 hd with rfl | hd
      · exact hc
      · exact ih h d hd
    · rw [List.dropWhile_cons_of_neg hc] at h
      simp at h
theorem skip_all {s : L} (h : ∀ c ∈ s, bl c = true) : skip s = [] := by
  induction s with
  | nil => rfl
  | cons c s ih =>
    unfold skip at ih ⊢
    rw [List.dropWhile_cons_of_pos (h c (by simp))]
    exact ih (fun d hd => h d (by simp [hd]))
theorem skip_head {s : L} (h : skip s ≠ []) : ∃ c r, skip s = c :: r ∧ bl c = false := by
  induction s with
  | nil => simp [skip] at h
  | cons c s ih =>
    unfold skip at h ih ⊢
    by_cases hc : bl c = true
    · rw [List.dropWhile_cons_of_pos hc] at h ⊢
      exact ih h
    · rw [List.dropWhile_cons_of_neg hc]
      exact ⟨c, s, rfl, by simpa using hc⟩
theorem trim_comm (s : L) : skip (skip s.reverse).reverse = trim s := by
  unfold trim
  by_cases h : skip s = []
  · have ha := skip_nil h
    rw [h, skip_all (s := s.reverse) (fun c hc => ha c (List.mem_reverse.1 hc))]
    rfl
  · obtain ⟨c, r, e, hc⟩ := skip_head h
    have hs : s = s.takeWhile bl ++ skip s := (List.takeWhile_append_dropWhile).symm
    have hne : skip (skip s).reverse ≠ [] := by
      intro e2
      have := skip_nil e2 c (by rw [e]; simp)
      rw [hc] at this
      simp at this
    have h1 : skip s.reverse = skip (skip s).reverse ++ (s.takeWhile bl).reverse := by
      conv => lhs; rw [hs]
      exact rd_app _ _ hne
    rw [h1, List.reverse_append, List.reverse_reverse]
    -- the head that is kept is no blank
    have hb : ∀ x ∈ s.takeWhile bl, bl x = true := fun x hx => mem_tw hx
    have hk : ∃ d t, (skip (skip s).reverse).reverse = d :: t ∧ bl d = false := by
      have hpre : ∃ t, (skip s).reverse = t ++ skip (skip s).reverse := ⟨(skip s).reverse.takeWhile bl, (List.takeWhile_append_dropWhile).symm⟩
      obtain ⟨t, ht⟩ := hpre
      have h3 := congrArg List.reverse ht
      rw [List.reverse_reverse, List.reverse_append] at h3
      cases e4 : (skip (skip s).reverse).reverse with
      | nil => exact absurd (List.reverse_eq_nil_iff.1 e4) hne
      | cons d u =>
        rw [e4, e] at h3
        simp at h3
        exact ⟨d, u, rfl, by rw [← h3.1]; exact hc⟩
    obtain ⟨d, t, e5, hd⟩ := hk
    rw [e5]
    generalize s.takeWhile bl = a at *
    clear h1 hs
    induction a with
    | nil =>
      show skip (d :: t) = d :: t
      unfold skip
      rw [List.dropWhile_cons_of_neg (by rw [hd]; simp)]
    | cons x a ih =>
      have hx := hb x (by simp)
      unfold skip at ih ⊢
      rw [List.cons_append, List.dropWhile_cons_of_pos hx]
      exact ih (fun y hy => hb y (by simp [hy]))
theorem trimS_eq (s : L) : Lib.trimS s [32, 9] = trim s := by
  unfold Lib.trimS Lib.trimLeftS Lib.trimRightS
  rw [bl_eq, ← trim_comm]
  rfl
theorem skipF (s : L) : strings_TrimLeft.f (mk s) (⟨#[32, 9]⟩ : ByteArray) = some (mk (skip s)) := by
  unfold strings_TrimLeft.f
  rw [if_pos ⟨by decide, by decide⟩, mk_data]
  have e : ((⟨#[32, 9]⟩ : ByteArray).data.toList) = [32, 9] := rfl
  rw [e]
  unfold Lib.trimLeftS
  rw [bl_eq]
  rfl
theorem skip_len (s : L) : (skip s).length ≤ s.length := dw_len _ _
theorem lowI_b (c : UInt8) : UInt8.ofNat (lowI c.toNat).toNat = lowB c := by
  have h := c.toNat_lt
  unfold lowI lowB
  by_cases hc : 65 ≤ c.toNat ∧ c.toNat ≤ 90
  · rw [if_pos hc, if_pos (by omega)]
    congr 1
  · rw [if_neg hc, if_neg (by omega)]
    simp
theorem range_map (s : L) (f : UInt8 → UInt8) (g : Nat → Int) (h : ∀ (j : Nat) (hj : j < s.length), UInt8.ofNat (g j).toNat = f s[j]) : ((List.range s.length).map g).map (fun x => UInt8.ofNat x.toNat) = s.map f := by
  apply List.ext_getElem
  · simp
  · intro j h1 h2
    simp at h1 h2 ⊢
    exact h j h2
theorem lowF (s : L) (hs : s.length ≤ 1000000000000) : media_Small.f (mk s) = some (mk (low s)) := by
  unfold media_Small.f
  rw [if_pos (by rw [mk_size]; omega)]
  congr 1
  unfold strOfNums smallAt low
  apply ba_ext
  rw [mk_data, mk_size]
  simp only [List.toList_toArray]
  refine range_map s lowB _ (fun j hj => ?_)
  obtain ⟨b, e1, e2⟩ := mk_bt s j hj
  have e3 : s[j] = b := by
    have := List.drop_eq_getElem_cons hj
    rw [e1] at this
    exact (List.cons.inj this).1.symm
  rw [if_pos hj, e2, e3, lowI_b]
theorem low_len (s : L) : (low s).length = s.length := by simp [low]
theorem badI_b (c : UInt8) : badI (c.toNat : Int) = ctl c := by
  unfold badI ctl
  have h9 : ((c.toNat : Int) == 9) = (c == 9) := by
    rw [Bool.eq_iff_iff, beq_iff_eq, beq_iff_eq, show (9 : Int) = ((9 : Nat) : Int) from rfl, u8i c 9 (by omega)]
    rfl
  have h127 : ((c.toNat : Int) == 127) = (c == 127) := by
    rw [Bool.eq_iff_iff, beq_iff_eq, beq_iff_eq, show (127 : Int) = ((127 : Nat) : Int) from rfl, u8i c 127 (by omega)]
    rfl
  have h32 : decide ((c.toNat : Int) < 32) = decide (c.toNat < 32) := by
    rw [Bool.eq_iff_iff, decide_eq_true_eq, decide_eq_true_eq]
    omega
  rw [h9, h127, h32]
theorem index1_eq (c : UInt8) (r : L) : Lib.index (c :: r) [c] = 0 := by simp [Lib.index, List.isPrefixOf]
theorem index1_other (c x : UInt8) (r : L) (h : x ≠ c) : Lib.index (x :: r) [c] = if Lib.index r [c] == -1 then -1 else Lib.index r [c] + 1 := by
  have h' : (c == x) = false := by simpa using fun e : c = x => h e.symm
  simp [Lib.index, List.isPrefixOf, h']
theorem index1 (c : UInt8) : ∀ s : L, (c ∉ s ∧ Lib.index s [c] = -1) ∨ (∃ a b, s = a ++ c :: b ∧ c ∉ a ∧ Lib.index s [c] = a.length)
  | [] => .inl ⟨by simp, by simp [Lib.index]⟩
  | x :: r => by
    by_cases h : x = c
    · subst h
      exact .inr ⟨[], r, rfl, by simp, by rw [index1_eq]; rfl⟩
    · rw [index1_other c x r h]
      rcases index1 c r with ⟨e1, e2⟩ | ⟨a, b, e1, e2, e3⟩
      · rw [e2]
        exact .inl ⟨by simp [e1]; exact fun e => h e.symm, rfl⟩
      · rw [e3]
        have hb : ((a.length : Int) == -1) = false := by simp
        rw [hb, if_neg (by decide)]
        exact .inr ⟨x :: a, b, by simp [e1], by simp [e2]; exact fun e => h e.symm, by simp⟩
theorem cut1_none {c : UInt8} {s : L} (h : c ∉ s) : Lib.cut s [c] = (s, [], false) := by
  rcases index1 c s with ⟨e1, e2⟩ | ⟨a, b, e1, e2, e3⟩
  · unfold Lib.cut; rw [e2, if_neg (by omega)]
  · exact absurd (by rw [e1]; simp) h
theorem cut1_some {c : UInt8} (a b : L) (h : c ∉ a) : Lib.cut (a ++ c :: b) [c] = (a, b, true) := by
  rcases index1 c (a ++ c :: b) with ⟨e1, e2⟩ | ⟨a', b', e1, e2, e3⟩
  · exact absurd (by simp) e1
  · have hl : a = a' ∧ b = b' := by
      clear e3
      induction a generalizing a' with
      | nil =>
        cases a' with
        | nil => simp at e1; exact ⟨rfl, e1⟩
        | cons x a' => simp at e1; exact absurd (by simp [e1.1]) e2
      | cons y a ih =>
        cases a' with
        | nil => simp at e1; exact absurd (by simp [e1.1]) h
        | cons x a' =>
          simp at e1
          obtain ⟨rfl, e1⟩ := e1
          obtain ⟨h1, h2⟩ := ih (fun e => h (by simp [e])) a' e1 (fun e => e2 (by simp [e]))
          exact ⟨by rw [h1], h2⟩
    obtain ⟨rfl, rfl⟩ := hl
    unfold Lib.cut
    rw [e3, if_pos (by omega)]
    simp
theorem tok_parts (s : L) : s = (tok s).1 ++ (tok s).2 ∧ (∀ x ∈ (tok s).1, tokB x = true) ∧ (∀ c r, (tok s).2 = c :: r → tokB c = false) := by
  refine ⟨(List.takeWhile_append_dropWhile).symm, fun x hx => mem_tw hx, fun c r h => ?_⟩
  · unfold tok at h
    simp only at h
    induction s with
    | nil => simp at h
    | cons x s ih =>
      by_cases hx : tokB x = true
      · rw [List.dropWhile_cons_of_pos hx] at h
        exact ih h
      · rw [List.dropWhile_cons_of_neg hx] at h
        obtain ⟨rfl, rfl⟩ := List.cons.inj h
        simpa using hx
theorem quoted_suf : ∀ (s : L) (p : L × L), quoted s = some p → ∃ a, s = a ++ p.2 ∧ a ≠ []
  | [], _, h => by simp [quoted] at h
  | c :: r, p, h => by
    unfold quoted at h
    split at h
    · obtain rfl := Option.some.inj h
      exact ⟨[c], rfl, by simp⟩
    · split at h
      · cases r with
        | nil => simp at h
        | cons d r' =>
          simp only at h
          split at h
          · simp at h
          · cases e : quoted r' with
            | none => rw [e] at h; simp at h
            | some q =>
              rw [e] at h
              simp at h
              subst h
              obtain ⟨a, ha, _⟩ := quoted_suf r' q e
              exact ⟨c :: d :: a, by simp [← ha], by simp⟩
      · split at h
        · simp at h
        · cases e : quoted r with
          | none => rw [e] at h; simp at h
          | some q =>
            rw [e] at h
            simp at h
            subst h
            obtain ⟨a, ha, _⟩ := quoted_suf r q e
            exact ⟨c :: a, by simp [← ha], by simp⟩
theorem quoted_cons (c : UInt8) (r : L) : quoted (c :: r) = if c = 34 then some ([], r) else if c = 92 then (match r with
      | [] => none
      | d :: r' => if ctl d = true then none else (quoted r').map fun p => (d :: p.1, p.2))
    else if ctl c = true then none else (quoted r).map fun p => (c :: p.1, p.2) := by rw [quoted.eq_def]; cases r <;> rfl
theorem oneB_mk (b : UInt8) : oneB (b.toNat : Int) = mk [b] := by
  unfold oneB mk
  simp
theorem app_mk (acc : ByteArray) (a b : L) : acc ++ mk a ++ mk b = acc ++ mk (a ++ b) := by
  apply ba_ext
  simp [mk_data]
theorem qtF_eq (s : L) : ∀ (d f k : Nat) (acc : ByteArray), k + d = s.length → d < f → qtF (mk s) f k acc = (quoted (s.drop k)).map fun p => (acc ++ mk p.1, s.length - p.2.length) := by
  intro d
  induction d using Nat.strongRecOn with
  | _ d ih =>
    intro f k acc hk hf
    obtain ⟨f, rfl⟩ : ∃ f', f = f' + 1 := ⟨f - 1, by omega⟩
    rw [qtF, mk_size]
    by_cases hd : d = 0
    · rw [if_neg (by omega), List.drop_eq_nil_of_le (by omega)]
      rfl
    rw [if_pos (by omega)]
    obtain ⟨b, e1, e2⟩ := mk_bt s k (by omega)
    rw [e1, e2, quoted_cons]
    have c34 : ((b.toNat : Int) = 34) ↔ b = 34 := u8i b 34 (by omega)
    have c92 : ((b.toNat : Int) = 92) ↔ b = 92 := u8i b 92 (by omega)
    by_cases h1 : b = 34
    · rw [if_pos (c34.2 h1), if_pos h1]
      simp only [Option.map_some]
      congr 2
      · apply ba_ext; simp [mk_data]
      · rw [List.length_drop]; omega
    · rw [if_neg (fun h => h1 (c34.1 h)), if_neg h1]
      by_cases h2 : b = 92
      · rw [if_pos (c92.2 h2), if_pos h2]
        by_cases h3 : k + 1 < s.length
        · rw [if_pos h3]
          obtain ⟨b', e3, e4⟩ := mk_bt s (k + 1) h3
          rw [e3, e4, badI_b]
          simp only
          by_cases h4 : ctl b' = true
          · rw [if_pos h4, if_pos h4]; rfl
          · rw [if_neg h4, if_neg h4, oneB_mk, ih (d - 2) (by omega) f (k + 2) _ (by omega) (by omega)]
            rw [Option.map_map]
            congr 1
            funext p
            simp only [Function.comp]
            rw [app_mk]
            rfl
        · rw [if_neg h3, List.drop_eq_nil_of_le (by omega)]
          rfl
      · rw [if_neg (fun h => h2 (c92.1 h)), if_neg h2, badI_b]
        by_cases h4 : ctl b = true
        · rw [if_pos h4, if_pos h4]; rfl
        · rw [if_neg h4, if_neg h4, oneB_mk, ih (d - 1) (by omega) f (k + 1) _ (by omega) (by omega)]
          rw [Option.map_map]
          congr 1
          funext p
          simp only [Function.comp]
          rw [app_mk]
          rfl
theorem quotedF (s : L) (hs : s.length ≤ 1000000000000) : Text_Quoted.f (mk s) = some (match quoted s with
    | some p => (mk p.1, true, mk p.2)
    | none => (mk [], false, mk s)) := by
  unfold Text_Quoted.f
  rw [if_pos (by rw [mk_size]; omega), qtF_eq s s.length ((mk s).size + 1) 0 _ (by omega) (by rw [mk_size]; omega), List.drop_zero]
  cases e : quoted s with
  | none => rfl
  | some p =>
    obtain ⟨a, ha, _⟩ := quoted_suf s p e
    simp only [Option.map_some, qtR]
    congr 1
    have e1 : (⟨#[]⟩ : ByteArray) ++ mk p.1 = mk p.1 := by apply ba_ext; simp [mk_data]
    have e2 : (mk s).extract (s.length - p.2.length) (mk s).size = mk p.2 := by
      rw [ext_from]
      congr 1
      have hl : s.length - p.2.length = a.length := by rw [ha, List.length_append]; omega
      rw [hl]
      conv => lhs; rw [ha]
      simp
    rw [e1, e2]
def hasP (s p : L) : Bool := decide (s.take p.length = p)
theorem hasF (s p : L) : stringslite_HasPrefix.f (mk s) (mk p) = some (hasP s p) := by
  unfold stringslite_HasPrefix.f hasP
  rw [mk_size, mk_size]
  by_cases h : (s.length : Int) ≥ p.length
  · rw [if_pos h, if_pos (by omega), if_pos (by omega), ext_to, tl_mk, tl_mk]
    congr 1
    simp only [Int.toNat_natCast]
    rw [Bool.eq_iff_iff]
    simp
  · rw [if_neg h]
    congr 1
    symm
    rw [decide_eq_false_iff_not]
    intro e
    have := congrArg List.length e
    rw [List.length_take] at this
    omega
theorem cutPF (s p : L) : strings_CutPrefix.f (mk s) (mk p) = some (if hasP s p = true then (mk (s.drop p.length), true) else (mk s, false)) := by
  unfold strings_CutPrefix.f stringslite_CutPrefix.f
  rw [hasF]
  simp only [Option.bind_some]
  cases h : hasP s p with
  | false => simp
  | true =>
    have hl : p.length ≤ s.length := by
      unfold hasP at h
      have := congrArg List.length (of_decide_eq_true h)
      rw [List.length_take] at this
      omega
    rw [if_pos rfl, if_pos (by omega), if_pos (by rw [mk_size, mk_size]; omega)]
    simp only [Option.bind_some, if_true]
    rw [show (((mk p).size : Int)).toNat = p.length from by rw [mk_size]; rfl, ext_from]
theorem takeF (s p : L) : media_Text_Take.f (mk s) (mk p) = some (if hasP s p = true then (true, mk (s.drop p.length)) else (false, mk s)) := by
  unfold media_Text_Take.f
  rw [cutPF]
  cases h : hasP s p <;> simp
theorem hasP_one (s : L) (c : UInt8) : hasP s [c] = true ↔ s.head? = some c := by
  unfold hasP
  rw [decide_eq_true_eq]
  cases s with
  | nil => simp
  | cons x r => simp
theorem take1F (s : L) (c : UInt8) : media_Text_Take.f (mk s) (mk [c]) = some (if s.head? = some c then (true, mk s.tail) else (false, mk s)) := by
  rw [takeF]
  by_cases h : s.head? = some c
  · rw [if_pos ((hasP_one s c).2 h), if_pos h]
    cases s <;> rfl
  · rw [if_neg (fun e => h ((hasP_one s c).1 e)), if_neg h]
theorem valueF (s : L) (k : Nat) (hs : s.length ≤ 1000000000000) (hk : s.length < k) : ∃ q, media_Text_Value.f k (mk s) = some q ∧ (∀ v r, value s = some (v, r) → q = (mk v, true, mk r)) ∧ (value s = none → q.2.1 = false) := by
  unfold media_Text_Value.f
  rw [show (⟨#[34]⟩ : ByteArray) = mk [34] from rfl, take1F]
  simp only [Option.bind_some]
  by_cases h : s.head? = some 34
  · have hv : value s = quoted s.tail := by unfold value; rw [if_pos h]
    rw [if_pos h, hv]
    simp only [if_true]
    have hl : s.tail.length ≤ s.length := by rw [List.length_tail]; omega
    rw [quotedF s.tail (by omega)]
    simp only [Option.bind_some]
    cases e : quoted s.tail with
    | none => exact ⟨_, rfl, by simp, by simp⟩
    | some p => exact ⟨_, rfl, by rintro v r h; obtain rfl := Option.some.inj h; rfl, by simp⟩
  · have hv : value s = if (tok s).1 = [] then none else some (tok s) := by unfold value; rw [if_neg h]
    rw [if_neg h, hv]
    simp only [Bool.false_eq_true, if_false]
    rw [tokF s k hs hk]
    simp only [Option.bind_some, tl_mk]
    by_cases h2 : (tok s).1 = []
    · rw [if_pos h2, h2]
      exact ⟨_, rfl, by simp, by simp⟩
    · rw [if_neg h2]
      refine ⟨_, rfl, ?_, by simp⟩
      rintro v r h
      have e := Option.some.inj h
      rw [e] at h2 ⊢
      simp at h2
      simp [h2]
theorem tok_len (s : L) : (tok s).1.length + (tok s).2.length = s.length := by
  have := congrArg List.length (tok_parts s).1
  rw [List.length_append] at this
  omega
theorem value_len (s v r : L) (h : value s = some (v, r)) : r.length ≤ s.length := by
  unfold value at h
  split at h
  · obtain ⟨a, ha, _⟩ := quoted_suf _ _ h
    have := congrArg List.length ha
    rw [List.length_append, List.length_tail] at this
    simp at this
    omega
  · split at h
    · simp at h
    · have e := Option.some.inj h
      have := tok_len s
      rw [e] at this
      simp only at this
      omega
/-- What a parser of parameters gives: the list, or nothing. -/
def parsIs (o : Option (List (L × L))) (acc : List (L × L)) (q : List S50 × Bool) : Prop := match o with
  | some l => q = (pairsB (acc ++ l), true)
  | none => q = ([], false)
theorem params_l0 : ∀ (d f k : Nat) (s : L) (acc : List (L × L)), s.length ≤ d → d < f → 3 * d + 10 ≤ k → acc.length + s.length ≤ 1000000000000 →
    ∃ q, media_Text_Params.l0 k (pairsB acc) (mk (skip s)) = some q ∧ parsIs (params f s) acc (q.1, q.2.1) := by
  intro d
  induction d with
  | zero =>
    intro f k s acc hs hf hk ha
    obtain ⟨k, rfl⟩ : ∃ k', k = k' + 1 := ⟨k - 1, by omega⟩
    obtain ⟨f, rfl⟩ : ∃ f', f = f' + 1 := ⟨f - 1, by omega⟩
    obtain rfl : s = [] := List.eq_nil_of_length_eq_zero (by omega)
    rw [media_Text_Params.l0, if_pos (by rw [tl_mk]; rfl)]
    exact ⟨_, rfl, by simp [params, skip, parsIs]⟩
  | succ d ih =>
    intro f k s acc hs hf hk ha
    obtain ⟨k, rfl⟩ : ∃ k', k = k' + 2 := ⟨k - 2, by omega⟩
    obtain ⟨f, rfl⟩ : ∃ f', f = f' + 1 := ⟨f - 1, by omega⟩
    have hsk := skip_len s
    rw [media_Text_Params.l0, params, tl_mk]
    by_cases h0 : skip s = []
    · rw [if_pos h0, if_pos h0]
      exact ⟨_, rfl, by simp [parsIs]⟩
    rw [if_neg h0, if_neg h0, show (⟨#[59]⟩ : ByteArray) = mk [59] from rfl, take1F]
    simp only [Option.bind_some]
    by_cases h1 : (skip s).head? = some 59
    · rw [if_pos h1, if_neg (show ¬ ((skip s).head? ≠ some 59) by simpa using h1)]
      simp only [if_true]
      unfold media_Text_Skip.f
      rw [skipF]
      simp only [Option.bind_some]
      have l1 : (skip s).tail.length + 1 = (skip s).length := by
        cases e : skip s with
        | nil => exact absurd e h0
        | cons x r => simp
      have l2 := skip_len (skip s).tail
      rw [tokF (skip (skip s).tail) (k + 1) (by omega) (by omega)]
      simp only [Option.bind_some, tl_mk]
      have l3 := tok_len (skip (skip s).tail)
      generalize tok (skip (skip s).tail) = nt at *
      obtain ⟨n, t⟩ := nt
      simp only at l3 ⊢
      by_cases h2 : n = []
      · rw [if_pos h2, if_pos h2, media_Text_Params.j1, if_pos rfl]
        exact ⟨_, rfl, by simp [parsIs]⟩
      rw [if_neg h2, if_neg h2, show (⟨#[61]⟩ : ByteArray) = mk [61] from rfl, take1F]
      simp only [Option.bind_some]
      by_cases h3 : t.head? = some 61
      · rw [if_pos h3, if_neg (show ¬ (t.head? ≠ some 61) by simpa using h3)]
        simp only [Bool.not_true]
        rw [media_Text_Params.j1, if_neg (by decide)]
        have l4 : t.tail.length ≤ t.length := by rw [List.length_tail]; omega
        obtain ⟨q, hq, hy, hn⟩ := valueF t.tail k (by omega) (by omega)
        rw [hq]
        simp only [Option.bind_some]
        cases hv : value t.tail with
        | none =>
          rw [hn hv, if_neg (by decide)]
          exact ⟨_, rfl, by simp [parsIs]⟩
        | some p =>
          obtain ⟨v, r⟩ := p
          have hq2 := hy v r hv
          subst hq2
          have l5 := value_len _ _ _ hv
          simp only [if_true]
          rw [lowF n (by omega)]
          simp only [Option.bind_some]
          rw [if_pos (by rw [pairsB_len]; omega)]
          unfold media_Text_Skip.f
          rw [skipF]
          simp only [Option.bind_some]
          obtain ⟨q, hq, hp⟩ := ih f k r (acc ++ [(low n, v)]) (by omega) (by omega) (by omega) (by simp only [List.length_append, List.length_singleton]; omega)
          refine ⟨q, ?_, ?_⟩
          · rw [pairsB_app] at hq
            exact hq
          · unfold parsIs at hp ⊢
            cases e : params f r with
            | none => rw [e] at hp; exact hp
            | some l =>
              rw [e] at hp
              simp only [Option.map_some] at hp ⊢
              rw [hp]
              simp
      · rw [if_neg h3, if_pos (show t.head? ≠ some 61 by simpa using h3)]
        simp only [Bool.not_false]
        rw [media_Text_Params.j1, if_pos rfl]
        exact ⟨_, rfl, by simp [parsIs]⟩
    · rw [if_neg h1, if_pos (show (skip s).head? ≠ some 59 by simpa using h1)]
      exact ⟨_, rfl, by simp [parsIs]⟩
theorem paramsF (s : L) (k : Nat) (hs : s.length ≤ 100000000000) (hk : 3 * s.length + 10 ≤ k) : ∃ q, media_Text_Params.f k (mk s) = some q ∧ parsIs (pars s) [] (q.1, q.2.1) := by
  unfold media_Text_Params.f media_Text_Skip.f
  rw [skipF]
  simp only [Option.bind_some]
  exact params_l0 s.length (s.length + 1) k s [] (Nat.le_refl _) (by omega) hk (by simp; omega)
end Go.Proofs.YtghfbhobpodoeaaGreatDoor.Sp
/- Ospl -/
namespace Go.Proofs.YtghfbhobpodoeaaGreatDoor.O
open Go.RowKit Go.Proofs.YtghfbhobpodoeaaGreatDoorW.PrintWords Go.Proofs.YtghfbhobpodoeaaGreatDoorW.PrintLast Go.Proofs.YtghfbhobpodoeaaGreatDoorW.PrintMore
set_option linter.unusedVariables false
set_option linter.unusedSimpArgs false
def trimE (s : ByteArray) : Bool := decide (Lib.trimS s.data.toList [32, 9] = [])
def putB (s : ByteArray) (a b : Nat) (out : List ByteArray) : List ByteArray := if trimE (s.extract a b) = true then out else out ++ [s.extract a b]
theorem putB_len (s : ByteArray) (a b : Nat) (out : List ByteArray) : (putB s a b out).length ≤ out.length + 1 := by unfold putB; split <;> simp
theorem encs_map_ {α : Type} (enc : α → Value) (xs : List α) : encs enc xs = xs.map enc := by simp [encs]
theorem bxb {W W1 : World} {B : Nat} {t : TypeId} {v : Value} (h : Boxed W B t v) (hb : Below W.heap.size W W1) : Boxed W1 B t v := (hb.block B h.lt).trans h
theorem rowb {W W1 : World} {base k : Nat} {e : TypeId} {v : Value} {xs : List Value} (h : W.ownsRow base e 1 v k xs) (hb : Below W.heap.size W W1) : W1.ownsRow base e 1 v k xs := own_move h (fun j hj => hb.block j (own_lt h j hj))
theorem bxg {W W1 W' : World} {B : Nat} {t : TypeId} {v : Value} {row : Option Nat} (h : Boxed W B t v) (o : Obj) (e : W1.heap = (W.alloc o).heap) (hg : W1.grownBy W' row) (hne : some B ≠ row) : Boxed W' B t v :=
  Boxed.kept (show Boxed W1 B t v from (congrArg (fun h : Array Obj => h[B]?) e).trans (h.alloc o)) hg hne
theorem bxs {W : World} {B : Nat} {t : TypeId} {v : Value} (h : Boxed W B t v) (p : Addr) (hne : B ≠ p.block) (x : Value) : Boxed (W.setCell p x) B t v := (Below.heap_setCell W p x B hne).trans h
theorem rows_ {W : World} {base k : Nat} {e : TypeId} {v : Value} {xs : List Value} (h : W.ownsRow base e 1 v k xs) (p : Addr) (hne : some p.block ≠ v.ownBlock) (x : Value) : (W.setCell p x).ownsRow base e 1 v k xs := own_move h (fun j hj => Below.heap_setCell W p x j (fun e => hne (by rw [← e]; exact hj.symm)))
set_option maxHeartbeats 1000000 in
set_option maxRecDepth 100000 in
theorem put_calls (b : Nat) (s : ByteArray) (a c : Nat) (v : Value) (out : List ByteArray) (base : Nat) (W : World)
    (hs : Boxed W b 9 (.string s)) (ho : Boxed W (b + 1 + 1) 33 v) (hf : Boxed W (b + 1 + 1 + 1) 3 (.int .i64 a)) (h1 : a ≤ c) (h2 : c ≤ s.size) (hsz : s.size ≤ 1000000000000)
    (hown : W.ownsRow base 9 1 v out.length (out.map Value.string)) (hne : v.ownBlock ≠ some b) (hlen : out.length ≤ 1000000000001) (hbase : base ≤ b) :
    Calls Tryz.prog 23 #[.int .i64 c, .pointer (some ⟨b, 0, none⟩), .pointer (some ⟨b + 1 + 1 + 1, 0, none⟩), .pointer (some ⟨b + 1 + 1, 0, none⟩)] W fun e W' => e = .returned (.tuple #[]) ∧
      ∃ v', Boxed W' b 9 (.string s) ∧ Boxed W' (b + 1 + 1) 33 v' ∧ Boxed W' (b + 1 + 1 + 1) 3 (.int .i64 ((c + 1 : Nat) : Int)) ∧ W'.ownsRow base 9 1 v' (putB s a c out).length ((putB s a c out).map Value.string) ∧ v'.ownBlock ≠ some b ∧ Below base W W' := by
  obtain ⟨t, ht⟩ : ∃ t, t = s.extract a c := ⟨_, rfl⟩
  have hts : t.size ≤ s.size := by rw [ht, ByteArray.size_extract]; omega
  have hT : strings_Trim.f t (⟨#[32, 9]⟩ : ByteArray) = some ⟨(Lib.trimS t.data.toList [32, 9]).toArray⟩ := by
    unfold strings_Trim.f
    rw [if_pos ⟨by omega, by decide, by decide⟩]
  have HT := Lib.hid (strings_Trim.calls t _ _ W hT)
  obtain ⟨q, hq⟩ : ∃ q, q = (⟨(Lib.trimS t.data.toList [32, 9]).toArray⟩ : ByteArray) := ⟨_, rfl⟩
  rw [← hq] at HT
  have ht' := Lib.hid ht
  have cs := hs.cell; have co := ho.cell; have cf := hf.cell
  have g1 : (a : Int) ≤ (c : Int) := by omega
  have g2 : (c : Int) ≤ (s.size : Int) := by omega
  have hw1 : wrap64 ((c : Int) + 1) = ((c + 1 : Nat) : Int) := by unfold wrap64; omega
  have hput : Hid (putB s a c out = if trimE t = true then out else out ++ [t]) := Lib.hid (by unfold putB; rw [ht])
  have hqe : Hid (q.toList = [] ↔ trimE t = true) := Lib.hid (by unfold trimE; rw [hq, Lib.toList_data]; simp)
  have hex : s.extract a c = t := ht.symm
  have hlt := hs.lt
  clear ht hT hq
  by_cases he : q.toList = []
  · have he1 : (q.toList == []) = true := by rw [he]; rfl
    have hp2 : Hid (putB s a c out = out) := Lib.hid (by rw [hput.out, if_pos (hqe.out.1 he)])
    go_enter Tryz.func23, Tryz.ntmps23
    go_wp2_with (go_at_call 24; refine HT.out.mono ?_; rintro e w1 ⟨rfl, hb1⟩; have cs1 := (bxb hs hb1).cell; have cf1 := (bxb hf hb1).cell; have co1 := (bxb ho hb1).cell; have ff1 := (bxb hf hb1).frozen; have hb1 := Lib.hid hb1)
    go_end0
    have hr1 := rowb hown hb1.out
    exact ⟨rfl, v, bxs (bxb hs hb1.out) ⟨b + 1 + 1 + 1, 0, none⟩ (by simp <;> omega) _, bxs (bxb ho hb1.out) ⟨b + 1 + 1 + 1, 0, none⟩ (by simp <;> omega) _, (bxb hf hb1.out).set _, by rw [hp2.out]; exact rows_ hr1 ⟨b + 1 + 1 + 1, 0, none⟩ ((bxb hf hb1.out).not_row zb47 hr1) _, hne, (hb1.out.mono zb42).setCell (p := ⟨b + 1 + 1 + 1, 0, none⟩) (by show base ≤ b + 1 + 1 + 1; omega) _⟩
  · have he1 : (q.toList == []) = false := by simpa using he
    have hp2 : Hid (putB s a c out = out ++ [t]) := Lib.hid (by rw [hput.out, if_neg (fun h => he (hqe.out.2 h))])
    obtain ⟨i0, hi, hz0, hz1, hz2⟩ := info_parts (show (Tryz.prog.info? 9).map (fun i => (i.zero, i.size, i.bytes)) = some (some (.string ⟨#[]⟩), 1, 16) by kernel_rfl)
    go_enter Tryz.func23, Tryz.ntmps23
    go_wp2_with (go_at_call 24; refine HT.out.mono ?_; rintro e w1 ⟨rfl, hb1⟩; have cs1 := (bxb hs hb1).cell; have cf1 := (bxb hf hb1).cell; have co1 := (bxb ho hb1).cell; have ff1 := (bxb hf hb1).frozen; have fo1 := (bxb ho hb1).frozen; have ca1 : (w1.alloc (.cells #[.string t] 9)).cell? ⟨b + 1 + 1, 0, none⟩ = some v := ((bxb ho hb1).alloc _).cell; have hr1 := Lib.hid (rowb hown hb1); have hb1 := Lib.hid hb1)
    go_region_law (refine step_append_lies _ rfl _ _ 33 rfl base 9 i0 (.string ⟨#[]⟩) 1 16 Tryz.underlying33 hi hz0 hz1 hz2 rfl zb47 v out.length (out.map Value.string) rfl (hr1.out.alloc _) ⟨w1.heap.size, 0, none⟩ 1 1 [.string t] rfl rfl (cell_one_new _ _ _) (by simp [Value.oneCell']) zb47 (by unfold maxLen; omega) zb42 (by have := hb1.out.size; simp; omega) _ rfl ?_; intro g cap w2 hown2 hg2 hor2 hlt2; have hO2 : Boxed w2 (b + 1 + 1) 33 v := bxg (bxb ho hb1.out) (.cells #[.string t] 9) (by rfl) hg2 ((bxb ho hb1.out).not_row zb47 hr1.out); have cO2 := hO2.cell; have fO2 := hO2.frozen; have hO2 := Lib.hid hO2; have hS2 : Hid (Boxed w2 b 9 (.string s)) := Lib.hid (bxg (bxb hs hb1.out) (.cells #[.string t] 9) (by rfl) hg2 (fun e => hne e.symm)); have hF2 : Boxed w2 (b + 1 + 1 + 1) 3 (.int .i64 a) := bxg (bxb hf hb1.out) (.cells #[.string t] 9) (by rfl) hg2 ((bxb hf hb1.out).not_row zb47 hr1.out); have cF2 := hF2.cell; have fF2 := hF2.frozen; have hF2 := Lib.hid hF2; have hown2 := Lib.hid hown2; have hg2 := Lib.hid hg2; have hor2 := Lib.hid hor2; have hlt2 := Lib.hid hlt2)
    all_goals
      go_wp2
      go_end0
      have hgb : some (b + 1 + 1) ≠ (Value.slice (some ⟨g, 0, none⟩) (out.length + 1) cap).ownBlock := hO2.out.not_row zb47 hown2.out
      have hgf : some (b + 1 + 1 + 1) ≠ (Value.slice (some ⟨g, 0, none⟩) (out.length + 1) cap).ownBlock := hF2.out.not_row zb47 hown2.out
      have hg0 : g ≠ b := by
        rintro rfl
        rcases hor2.out with h | h
        · exact hne h
        · have h' : g = w1.heap.size + 1 := by simpa using h
          have := hb1.out.size; omega
      refine ⟨rfl, _, bxs (bxs hS2.out ⟨b + 1 + 1, 0, none⟩ (by simp <;> omega) _) ⟨b + 1 + 1 + 1, 0, none⟩ (by simp <;> omega) _, bxs (hO2.out.set _) ⟨b + 1 + 1 + 1, 0, none⟩ (by simp <;> omega) _, (bxs hF2.out ⟨b + 1 + 1, 0, none⟩ (by simp <;> omega) _).set _, ?_, ?_, ?_⟩
      · rw [hp2.out]
        have := rows_ (rows_ hown2.out ⟨b + 1 + 1, 0, none⟩ hgb (.slice (some ⟨g, 0, none⟩) (out.length + 1) cap)) ⟨b + 1 + 1 + 1, 0, none⟩ hgf (.int .i64 ((c : Int) + 1))
        simpa using this
      · intro h
        exact hg0 (by simpa [Value.ownBlock] using h)
      · have h1 : Below base W w1 := hb1.out.mono zb42
        have h2 : Below base W w2 := (Below.drew (h1.alloc (by have := h1.size; omega) _)).grown hg2.out (by simp; have := h1.size; omega) (fun k e => own_base hown k e)
        exact (h2.setCell (p := ⟨b + 1 + 1, 0, none⟩) (by show base ≤ b + 1 + 1; omega) _).setCell (p := ⟨b + 1 + 1 + 1, 0, none⟩) (by show base ≤ b + 1 + 1 + 1; omega) _
def splF (s : ByteArray) : Nat → Nat → Nat → Bool → List ByteArray → List ByteArray
  | 0, _, a, _, out => putB s a s.size out
  | f + 1, i, a, q, out =>
    if i < s.size then
      if bt s i = 34 then splF s f (i + 1) a (!q) out
      else if bt s i = 92 ∧ q = true then splF s f (i + 2) a q out
      else if bt s i = 44 ∧ q = false then splF s f (i + 1) (i + 1) q (putB s a i out)
      else splF s f (i + 1) a q out
    else putB s a s.size out
def quality_Split.f (a0 : ByteArray) : Option (List ByteArray) := if a0.size ≤ 1000000000000 then some (splF a0 (a0.size + 2) 0 0 false []) else none
set_option maxHeartbeats 1000000 in
set_option maxRecDepth 100000 in
theorem quality_Split.calls (a0 : ByteArray) (r : List ByteArray) (w : World) (h : quality_Split.f a0 = some r) :
    Calls Tryz.prog 13 #[.string a0] w fun e w' => ∃ v0_ : Value, e = .returned v0_ ∧ Kd.R Kd.string 9 w' w.heap.size (fun _ => True) v0_ r ∧ Below w.heap.size w w' := by
  unfold quality_Split.f at h
  split at h
  case isFalse => exact absurd h zb45
  rename_i hsz
  have hres := Lib.hid (Option.some.inj h)
  clear h
  have hmf : ∀ (fn : Fn) (first cap : Array Value) (w : World), (Instr.makeFunc fn first cap).run Tryz.prog w = .ok (.func fn first cap) w := fun _ _ _ _ => rfl
  have hall : Hid (Boxed ((((w.alloc (.cells #[.string a0] 9)).alloc (.cells #[] 9)).alloc (.cells #[.slice (some ⟨w.heap.size + 1, 0, none⟩) 0 0] 33)).alloc (.cells #[.int .i64 0] 3)) w.heap.size 9 (.string a0) ∧
      Boxed ((((w.alloc (.cells #[.string a0] 9)).alloc (.cells #[] 9)).alloc (.cells #[.slice (some ⟨w.heap.size + 1, 0, none⟩) 0 0] 33)).alloc (.cells #[.int .i64 0] 3)) (w.heap.size + 1 + 1) 33 (.slice (some ⟨w.heap.size + 1, 0, none⟩) 0 0) ∧
      Boxed ((((w.alloc (.cells #[.string a0] 9)).alloc (.cells #[] 9)).alloc (.cells #[.slice (some ⟨w.heap.size + 1, 0, none⟩) 0 0] 33)).alloc (.cells #[.int .i64 0] 3)) (w.heap.size + 1 + 1 + 1) 3 (.int .i64 0) ∧
      ((((w.alloc (.cells #[.string a0] 9)).alloc (.cells #[] 9)).alloc (.cells #[.slice (some ⟨w.heap.size + 1, 0, none⟩) 0 0] 33)).alloc (.cells #[.int .i64 0] 3)).ownsRow w.heap.size 9 1 (.slice (some ⟨w.heap.size + 1, 0, none⟩) 0 0) 0 [] ∧
      Below w.heap.size w ((((w.alloc (.cells #[.string a0] 9)).alloc (.cells #[] 9)).alloc (.cells #[.slice (some ⟨w.heap.size + 1, 0, none⟩) 0 0] 33)).alloc (.cells #[.int .i64 0] 3))) := Lib.hid (by
    refine ⟨(((Boxed.new w 9 (.string a0)).alloc _).alloc _).alloc _, ?_, ?_, ?_, below_alloc (below_alloc (below_alloc (below_alloc (Below.refl _ _) _) _) _) _⟩
    · have := (Boxed.new ((w.alloc (.cells #[.string a0] 9)).alloc (.cells #[] 9)) 33 (.slice (some ⟨w.heap.size + 1, 0, none⟩) 0 0)).alloc (.cells #[.int .i64 0] 3)
      simpa only [World.size_alloc] using this
    · have := Boxed.new (((w.alloc (.cells #[.string a0] 9)).alloc (.cells #[] 9)).alloc (.cells #[.slice (some ⟨w.heap.size + 1, 0, none⟩) 0 0] 33)) 3 (.int .i64 0)
      simpa only [World.size_alloc] using this
    · have := World.ownsRow_lit (base := w.heap.size) (e := 9) (size := 1) (w.alloc (.cells #[.string a0] 9)) #[] 0 zb45 zb47 zb45
      have h2 := (World.ownsRow.alloc this (.cells #[.slice (some ⟨w.heap.size + 1, 0, none⟩) 0 0] 33)).alloc (.cells #[.int .i64 0] 3)
      simpa only [World.size_alloc] using h2)
  go_enter Tryz.func13, Tryz.ntmps13
  go_wp2
  go_loopw [5, 7] (fun inq i wr => ∃ (k a f : Nat) (q : Bool) (v : Value) (out : List ByteArray), i = .int .i64 k ∧ inq = .bool q ∧ Hid (k ≤ a0.size + 1 ∧ a ≤ k ∧ a ≤ a0.size ∧ a0.size + 2 ≤ f + k ∧ out.length ≤ k ∧ splF a0 f k a q out = r) ∧ Hid (Boxed wr w.heap.size 9 (.string a0)) ∧ Hid (Boxed wr (w.heap.size + 1 + 1) 33 v) ∧ Hid (Boxed wr (w.heap.size + 1 + 1 + 1) 3 (.int .i64 a)) ∧ Hid (wr.ownsRow w.heap.size 9 1 v out.length (out.map Value.string) ∧ v.ownBlock ≠ some w.heap.size) ∧ Hid (Below w.heap.size w wr)) (fun _ i _ => a0.size + 1 - (intOf i).toNat)
  case atStart =>
    obtain ⟨p1, p2, p3, p4, p5⟩ := hall.out
    exact ⟨0, 0, a0.size + 2, false, _, [], rfl, rfl, Lib.hid ⟨by omega, by omega, by omega, by omega, by simp, hres.out⟩, Lib.hid p1, Lib.hid p2, Lib.hid p3, Lib.hid ⟨p4, by simp [Value.ownBlock]⟩, Lib.hid p5⟩
  case round =>
    obtain ⟨k, a, f, q, v, out, rfl, rfl, hq, hS, hO, hF, hR, hW⟩ := hrel
    have cs := hS.out.cell
    obtain ⟨h1, h2, h3, h4, h5, h6⟩ := hq.out
    clear hq
    obtain ⟨f, rfl⟩ : ∃ f', f = f' + 1 := ⟨f - 1, by omega⟩
    have h6 := Lib.hid h6
    by_cases hlt : k < a0.size
    · have hidx : ∀ h : k < a0.size, ((a0[k]'h).toNat : Int) = bt a0 k := fun h => by simp [bt, h]
      have h7 : Hid (splF a0 (f + 1) k a q out = if bt a0 k = 34 then splF a0 f (k + 1) a (!q) out
        else if bt a0 k = 92 ∧ q = true then splF a0 f (k + 2) a q out
        else if bt a0 k = 44 ∧ q = false then splF a0 f (k + 1) (k + 1) q (putB a0 a k out)
        else splF a0 f (k + 1) a q out) := Lib.hid (by rw [splF, if_pos hlt])
      have hkl : (k : Int) < (a0.size : Int) := by omega
      have hw1 : wrap64 ((k : Int) + 1) = ((k + 1 : Nat) : Int) := by unfold wrap64; omega
      have hw2 : wrap64 ((k : Int) + 1 + 1) = ((k + 2 : Nat) : Int) := by unfold wrap64; omega
      obtain ⟨q1, q2⟩ := bt_range a0 k
      generalize bt a0 k = c at *
      by_cases c34 : c = 34
      · subst c34
        have h8 := Lib.hid (h7.out.symm.trans h6.out)
        clear h6 h7
        go_wp2
        go_roundw
        case rel => exact ⟨k + 1, a, f, !q, v, out, by go_num, rfl, Lib.hid ⟨by omega, by omega, h3, by omega, by omega, by simpa using h8.out⟩, hS, hO, hF, hR, hW⟩
        case measure => simp [intOf]; omega
      · by_cases c92 : c = 92
        · subst c92
          cases q with
          | true =>
            have h8 := Lib.hid (h7.out.symm.trans h6.out)
            clear h6 h7
            go_wp2
            go_roundw
            case rel => exact ⟨k + 2, a, f, true, v, out, by go_num, rfl, Lib.hid ⟨by omega, by omega, h3, by omega, by omega, by simpa using h8.out⟩, hS, hO, hF, hR, hW⟩
            case measure => simp [intOf]; omega
          | false =>
            have h8 := Lib.hid (h7.out.symm.trans h6.out)
            clear h6 h7
            go_wp2
            go_roundw
            case rel => exact ⟨k + 1, a, f, false, v, out, by go_num, rfl, Lib.hid ⟨by omega, by omega, h3, by omega, by omega, by simpa using h8.out⟩, hS, hO, hF, hR, hW⟩
            case measure => simp [intOf]; omega
        · by_cases c44 : c = 44
          · subst c44
            cases q with
            | true =>
              have h8 := Lib.hid (h7.out.symm.trans h6.out)
              clear h6 h7
              go_wp2
              go_roundw
              case rel => exact ⟨k + 1, a, f, true, v, out, by go_num, rfl, Lib.hid ⟨by omega, by omega, h3, by omega, by omega, by simpa using h8.out⟩, hS, hO, hF, hR, hW⟩
              case measure => simp [intOf]; omega
            | false =>
              have h8 := Lib.hid (h7.out.symm.trans h6.out)
              clear h6 h7
              have HP := Lib.hid (put_calls w.heap.size a0 a k v out w.heap.size wr hS.out hO.out hF.out zb42 zb42 hsz hR.out.1 hR.out.2 zb42 (Nat.le_refl _))
              go_wp2_with (go_at_call 23; refine HP.out.mono ?_; rintro e w2 ⟨rfl, v2, p1, p2, p3, p4, p5, p6⟩; have p1 := Lib.hid p1; have p2 := Lib.hid p2; have p3 := Lib.hid p3; have p4 := Lib.hid p4; have p5 := Lib.hid p5; have p6 := Lib.hid p6)
              go_roundw
              case rel => exact ⟨k + 1, k + 1, f, false, v2, putB a0 a k out, by go_num, rfl, Lib.hid ⟨by omega, by omega, by omega, by omega, by have := putB_len a0 a k out; omega, by simpa using h8.out⟩, p1, p2, p3, Lib.hid ⟨p4.out, p5.out⟩, Lib.hid (hW.out.trans p6.out)⟩
              case measure => simp [intOf]; omega
          · have h8 := Lib.hid (h7.out.symm.trans h6.out)
            clear h6 h7
            have f34 : (c == 34) = false := by simpa using c34
            have f92 : (c == 92) = false := by simpa using c92
            have f44 : (c == 44) = false := by simpa using c44
            have f34 : decide (c = 34) = false := by simpa using c34
            have f92 : decide (c = 92) = false := by simpa using c92
            have f44 : decide (c = 44) = false := by simpa using c44
            go_wp2
            go_roundw
            case rel => exact ⟨k + 1, a, f, q, v, out, by go_num, rfl, Lib.hid ⟨by omega, by omega, h3, by omega, by omega, by have := h8.out; rwa [if_neg c34, if_neg (fun h => c92 h.1), if_neg (fun h => c44 h.1)] at this⟩, hS, hO, hF, hR, hW⟩
            case measure => simp [intOf]; omega
    · have h7 : Hid (putB a0 a a0.size out = r) := Lib.hid (by have := h6.out; rwa [splF, if_neg hlt] at this)
      clear h6
      have HP := Lib.hid (put_calls w.heap.size a0 a a0.size v out w.heap.size wr hS.out hO.out hF.out h3 (Nat.le_refl _) hsz hR.out.1 hR.out.2 zb42 (Nat.le_refl _))
      go_wp2_with (go_at_call 23; refine HP.out.mono ?_; rintro e w2 ⟨rfl, v2, p1, p2, p3, p4, p5, p6⟩; have c2 := p2.cell; have p1 := Lib.hid p1; have p2 := Lib.hid p2; have p3 := Lib.hid p3; have p4 := Lib.hid p4; have p5 := Lib.hid p5; have p6 := Lib.hid p6)
      go_ret
      refine ⟨v2, rfl, ?_, hW.out.trans p6.out⟩
      rw [← h7.out]
      exact Kd.R_of_own (by rw [encs_map_]; exact p4.out) (fun _ _ => trivial)
end Go.Proofs.YtghfbhobpodoeaaGreatDoor.O
/- Px14 -/
namespace Go.Proofs.YtghfbhobpodoeaaGreatDoor.P
open Go.Proofs.YtghfbhobpodoeaaGreatDoor.B
open Go.RowKit Go.Proofs.YtghfbhobpodoeaaGreatDoorW.PrintWords Go.Proofs.YtghfbhobpodoeaaGreatDoorW.PrintLast Go.Proofs.YtghfbhobpodoeaaGreatDoorW.PrintMore
attribute [local go_sem] run_store_float str_leq str_gtr str_geq max2_int min2_int max_two min_two max_three min_three max_four min_four
set_option linter.unusedVariables false
set_option linter.unusedSimpArgs false
open Go.Proofs.YtghfbhobpodoeaaGreatDoor.O
def media_Parse.j0 : Nat → ByteArray → ByteArray → List (S50) → Bool → Option (ByteArray × ByteArray × (List (S50)) × Int)
  | 0, _, _, _, _ => none
  | k + 1, x5, x7, x8, x40 => if x40 = true then (some ((⟨#[]⟩ : ByteArray), (⟨#[]⟩ : ByteArray), ([] : List (S50)), 130)) else ((media_Small.f x5).bind fun t154 => ((media_Small.f x7).bind fun t155 => (some (t154, t155, x8, 0))))
def media_Parse.f (k : Nat) (a0 : ByteArray) : Option (ByteArray × ByteArray × (List (S50)) × Int) := (media_Text_Skip.f a0).bind fun t142 => ((media_Text_Token.f k t142).bind fun bt143 => ((media_Text_Take.f bt143.2 (⟨#[47]⟩ : ByteArray)).bind fun bt145 => ((media_Text_Token.f k bt145.2).bind fun bt147 => ((media_Text_Params.f k bt147.2).bind fun bt149 => (if bt143.1.toList = ([] : List UInt8) then (media_Parse.j0 k bt143.1 bt147.1 bt149.1 true) else (if bt145.1 = true then (if bt147.1.toList = ([] : List UInt8) then (media_Parse.j0 k bt143.1 bt147.1 bt149.1 true) else (if bt149.2.1 = true then (if bt143.1.toList = ([42] : List UInt8) then (media_Parse.j0 k bt143.1 bt147.1 bt149.1 (bt147.1.toList != ([42] : List UInt8))) else (media_Parse.j0 k bt143.1 bt147.1 bt149.1 false)) else (media_Parse.j0 k bt143.1 bt147.1 bt149.1 true))) else (media_Parse.j0 k bt143.1 bt147.1 bt149.1 true)))))))
set_option maxHeartbeats 8000000 in
set_option maxRecDepth 100000 in
theorem media_Parse.calls (k : Nat) (a0 : ByteArray) (r1 : ByteArray) (r2 : ByteArray) (r3 : List (S50)) (r4 : Int) (w : World) (h : media_Parse.f k a0 = some (r1, r2, r3, r4)) :
  Calls Tryz.prog 30 #[.string a0] w fun e w' => ∃ v2_ : Value, e = .returned (.tuple #[.agg #[.string r1, .string r2, v2_], .int .i64 r4]) ∧ Kd.R k50 50 w' w.heap.size (fun _ => True) v2_ r3 ∧ Below w.heap.size w w' := by
 have hu40 := Tryz.underlying40
 have HB := Aside0.mk (Below.refl w.heap.size w)
 have H : ((media_Text_Skip.f a0).bind fun t142 => ((media_Text_Token.f k t142).bind fun bt143 => ((media_Text_Take.f bt143.2 (⟨#[47]⟩ : ByteArray)).bind fun bt145 => ((media_Text_Token.f k bt145.2).bind fun bt147 => ((media_Text_Params.f k bt147.2).bind fun bt149 => (if bt143.1.toList = ([] : List UInt8) then (media_Parse.j0 k bt143.1 bt147.1 bt149.1 true) else (if bt145.1 = true then (if bt147.1.toList = ([] : List UInt8) then (media_Parse.j0 k bt143.1 bt147.1 bt149.1 true) else (if bt149.2.1 = true then (if bt143.1.toList = ([42] : List UInt8) then (media_Parse.j0 k bt143.1 bt147.1 bt149.1 (bt147.1.toList != ([42] : List UInt8))) else (media_Parse.j0 k bt143.1 bt147.1 bt149.1 false)) else (media_Parse.j0 k bt143.1 bt147.1 bt149.1 true))) else (media_Parse.j0 k bt143.1 bt147.1 bt149.1 true)))))))) = some (r1, r2, r3, r4) := h
 clear h
 replace H := Option.bind_eq_some_iff.mp H
 obtain ⟨t142, A20, H⟩ := H
 replace H : ((media_Text_Token.f k t142).bind fun bt143 => ((media_Text_Take.f bt143.2 (⟨#[47]⟩ : ByteArray)).bind fun bt145 => ((media_Text_Token.f k bt145.2).bind fun bt147 => ((media_Text_Params.f k bt147.2).bind fun bt149 => (if bt143.1.toList = ([] : List UInt8) then (media_Parse.j0 k bt143.1 bt147.1 bt149.1 true) else (if bt145.1 = true then (if bt147.1.toList = ([] : List UInt8) then (media_Parse.j0 k bt143.1 bt147.1 bt149.1 true) else (if bt149.2.1 = true then (if bt143.1.toList = ([42] : List UInt8) then (media_Parse.j0 k bt143.1 bt147.1 bt149.1 (bt147.1.toList != ([42] : List UInt8))) else (media_Parse.j0 k bt143.1 bt147.1 bt149.1 false)) else (media_Parse.j0 k bt143.1 bt147.1 bt149.1 true))) else (media_Parse.j0 k bt143.1 bt147.1 bt149.1 true))))))) = some (r1, r2, r3, r4) := H
 have A2 := Aside0.mk A20
 clear A20
 replace H := Option.bind_eq_some_iff.mp H
 obtain ⟨⟨t143, t144⟩, A30, H⟩ := H
 replace H : ((media_Text_Take.f t144 (⟨#[47]⟩ : ByteArray)).bind fun bt145 => ((media_Text_Token.f k bt145.2).bind fun bt147 => ((media_Text_Params.f k bt147.2).bind fun bt149 => (if t143.toList = ([] : List UInt8) then (media_Parse.j0 k t143 bt147.1 bt149.1 true) else (if bt145.1 = true then (if bt147.1.toList = ([] : List UInt8) then (media_Parse.j0 k t143 bt147.1 bt149.1 true) else (if bt149.2.1 = true then (if t143.toList = ([42] : List UInt8) then (media_Parse.j0 k t143 bt147.1 bt149.1 (bt147.1.toList != ([42] : List UInt8))) else (media_Parse.j0 k t143 bt147.1 bt149.1 false)) else (media_Parse.j0 k t143 bt147.1 bt149.1 true))) else (media_Parse.j0 k t143 bt147.1 bt149.1 true)))))) = some (r1, r2, r3, r4) := H
 have A3 := Aside0.mk A30
 clear A30
 replace H := Option.bind_eq_some_iff.mp H
 obtain ⟨⟨t145, t146⟩, A40, H⟩ := H
 replace H : ((media_Text_Token.f k t146).bind fun bt147 => ((media_Text_Params.f k bt147.2).bind fun bt149 => (if t143.toList = ([] : List UInt8) then (media_Parse.j0 k t143 bt147.1 bt149.1 true) else (if t145 = true then (if bt147.1.toList = ([] : List UInt8) then (media_Parse.j0 k t143 bt147.1 bt149.1 true) else (if bt149.2.1 = true then (if t143.toList = ([42] : List UInt8) then (media_Parse.j0 k t143 bt147.1 bt149.1 (bt147.1.toList != ([42] : List UInt8))) else (media_Parse.j0 k t143 bt147.1 bt149.1 false)) else (media_Parse.j0 k t143 bt147.1 bt149.1 true))) else (media_Parse.j0 k t143 bt147.1 bt149.1 true))))) = some (r1, r2, r3, r4) := H
 have A4 := Aside0.mk A40
 clear A40
 replace H := Option.bind_eq_some_iff.mp H
 obtain ⟨⟨t147, t148⟩, A50, H⟩ := H
 replace H : ((media_Text_Params.f k t148).bind fun bt149 => (if t143.toList = ([] : List UInt8) then (media_Parse.j0 k t143 t147 bt149.1 true) else (if t145 = true then (if t147.toList = ([] : List UInt8) then (media_Parse.j0 k t143 t147 bt149.1 true) else (if bt149.2.1 = true then (if t143.toList = ([42] : List UInt8) then (media_Parse.j0 k t143 t147 bt149.1 (t147.toList != ([42] : List UInt8))) else (media_Parse.j0 k t143 t147 bt149.1 false)) else (media_Parse.j0 k t143 t147 bt149.1 true))) else (media_Parse.j0 k t143 t147 bt149.1 true)))) = some (r1, r2, r3, r4) := H
 have A5 := Aside0.mk A50
 clear A50
 replace H := Option.bind_eq_some_iff.mp H
 obtain ⟨⟨t149, t152, t153⟩, A60, H⟩ := H
 replace H : (if t143.toList = ([] : List UInt8) then (media_Parse.j0 k t143 t147 t149 true) else (if t145 = true then (if t147.toList = ([] : List UInt8) then (media_Parse.j0 k t143 t147 t149 true) else (if t152 = true then (if t143.toList = ([42] : List UInt8) then (media_Parse.j0 k t143 t147 t149 (t147.toList != ([42] : List UInt8))) else (media_Parse.j0 k t143 t147 t149 false)) else (media_Parse.j0 k t143 t147 t149 true))) else (media_Parse.j0 k t143 t147 t149 true))) = some (r1, r2, r3, r4) := H
 have A6 := Aside0.mk A60
 clear A60
 have HC7 := Aside0.mk H
 clear H
 go_enter Tryz.func30, Tryz.ntmps30
 go_upto_region 7 with (first | ((with_reducible refine gate_dst (N := 2) rfl ?_); refine box_event ?hg (N := 2) ?hd (cs := #[.string (⟨#[]⟩ : ByteArray), .string (⟨#[]⟩ : ByteArray), .slice none 0 0]) (t := 40) ?hr ?_; (case hd => rfl); (case hg => rfl); (case hr => first | (go_simp; done) | (go_simp; rfl)); intro gb140 hg w8 hbox hb; have n0_ := Aside0.mk (below_step zb0 hb); have n1_ := Aside0.mk (hbox); have n2_ := Aside0.mk ((by rw [hg]; exact (below_size zb0) : w.heap.size ≤ gb140)); have n3_ := Aside0.mk ((by rw [hg]; exact (below_size zb0) : w.heap.size ≤ gb140)); clear HB; have HB := n0_; have BK140 := n1_; have GW140 := n2_; have GE140 := n3_; clear n0_ n1_ n2_ n3_; clear hb hbox hg) | ((with_reducible refine gate_dst (N := 4) rfl ?_); refine box_event ?hg (N := 4) ?hd (cs := #[.string (⟨#[]⟩ : ByteArray)]) (t := 85) ?hr ?_; (case hd => rfl); (case hg => rfl); (case hr => first | (go_simp; done) | (go_simp; rfl)); intro gb141 hg w9 hbox hb; have n0_ := Aside0.mk (blk_below (g := gb140) (o := .cells #[.string (⟨#[]⟩ : ByteArray), .string (⟨#[]⟩ : ByteArray), .slice none 0 0] 40 (0, 0)) zb30 hb); have n1_ := Aside0.mk (below_step zb23 hb); have n2_ := Aside0.mk ((by rw [hg]; exact (below_size zb23) : w.heap.size ≤ gb141)); have n3_ := Aside0.mk ((by rw [hg]; exact (below_size zb23) : w.heap.size ≤ gb141)); have n4_ := Aside0.mk ((by rw [hg]; exact Nat.ne_of_lt (blk_lt (g := gb140) (o := .cells #[.string (⟨#[]⟩ : ByteArray), .string (⟨#[]⟩ : ByteArray), .slice none 0 0] 40 (0, 0)) zb30) : gb140 ≠ gb141)); have n5_ := Aside0.mk ((by rw [hg]; exact Nat.ne_of_gt (blk_lt (g := gb140) (o := .cells #[.string (⟨#[]⟩ : ByteArray), .string (⟨#[]⟩ : ByteArray), .slice none 0 0] 40 (0, 0)) zb30) : gb141 ≠ gb140)); have n6_ := Aside0.mk ((show IsS85 w w9 gb141 (⟨#[]⟩ : ByteArray) from ⟨hbox, (by rw [hg]; exact (below_size zb23))⟩)); clear BK140; clear HB; have BK140 := n0_; have HB := n1_; have GW141 := n2_; have GE141 := n3_; have NB140_141 := n4_; have NB141_140 := n5_; have HI141 := n6_; clear n0_ n1_ n2_ n3_ n4_ n5_ n6_; clear hb hbox hg; obtain ⟨HGz10, hgz10⟩ := HI141.out; have hcz10_0 := cellS85_0 HGz10; have hfz10_0 := blk_frozen HGz10 0; clear HGz10 hgz10) | ((with_reducible refine gate_callee (f := 51) rfl ?_); refine goesL_ (some 11) rfl rfl Tryz.func51 zb9 rfl #[.pointer (some ⟨gb141, 0, none⟩)] rfl zb2 ?_; (with_reducible refine (media_Text_Skip.calls gb141 a0 t142 w _ ?side1 ?side2 A2.out).mono ?_); (case side1 => repeat (first | (with_reducible first | exact HI141.out | apply IsS85.alloc | apply IsS85.drewN | apply IsS85.drew | apply IsS85.set_0 | refine IsS85.far ?_ NB141_140.out _) | exact HI141.out)); (case side2 => repeat (first | (with_reducible first | exact HB.out | apply below_alloc | apply pw_below_drewN | apply below_drew1 | refine below_set ?_ (IsS85.ge HI141.out) | refine below_set ?_ GE140.out) | exact HB.out)); rintro e w11 ⟨rfl, hi, hb, hk⟩; refine ⟨_, rfl, ?_⟩; have n0_ := Aside0.mk (KeepBut.blk hk (g' := gb140) (o := .cells #[.string (⟨#[]⟩ : ByteArray), .string (⟨#[]⟩ : ByteArray), .slice none 0 0] 40 (0, 0)) (by (with_reducible repeat (first | refine blk_drewN ?_ _ | refine blk_drew ?_ | refine blk_alloc ?_ _)); refine blk_far ?_ NB140_141.out _; (with_reducible repeat (first | refine blk_drewN ?_ _ | refine blk_drew ?_ | refine blk_alloc ?_ _)); exact BK140.out) NB140_141.out zb45); have n1_ := Aside0.mk (hb); have n2_ := Aside0.mk (hi); clear BK140; clear HB; clear HI141; have BK140 := n0_; have HB := n1_; have HI141 := n2_; clear n0_ n1_ n2_; (try clear hb); (try clear hb2); (try clear hk); (try clear hi)) | ((with_reducible refine gate_callee (f := 52) rfl ?_); refine goesL_ (some 12) rfl rfl Tryz.func52 zb9 rfl #[.pointer (some ⟨gb141, 0, none⟩)] rfl zb2 ?_; (with_reducible refine (media_Text_Token.calls k gb141 t142 t143 t144 w _ ?side1 ?side2 A3.out).mono ?_); (case side1 => repeat (first | (with_reducible first | exact HI141.out | apply IsS85.alloc | apply IsS85.drewN | apply IsS85.drew | apply IsS85.set_0 | refine IsS85.far ?_ NB141_140.out _) | exact HI141.out)); (case side2 => repeat (first | (with_reducible first | exact HB.out | apply below_alloc | apply pw_below_drewN | apply below_drew1 | refine below_set ?_ (IsS85.ge HI141.out) | refine below_set ?_ GE140.out) | exact HB.out)); rintro e w12 ⟨rfl, hi, hb, hk⟩; refine ⟨_, rfl, ?_⟩; have n0_ := Aside0.mk (KeepBut.blk hk (g' := gb140) (o := .cells #[.string (⟨#[]⟩ : ByteArray), .string (⟨#[]⟩ : ByteArray), .slice none 0 0] 40 (0, 0)) zb30 NB140_141.out zb45); have n1_ := Aside0.mk (hb); have n2_ := Aside0.mk (hi); clear BK140; clear HB; clear HI141; have BK140 := n0_; have HB := n1_; have HI141 := n2_; clear n0_ n1_ n2_; (try clear hb); (try clear hb2); (try clear hk); (try clear hi)) | ((with_reducible refine gate_callee (f := 53) rfl ?_); refine goesL_ (some 13) rfl rfl Tryz.func53 zb9 rfl #[.pointer (some ⟨gb141, 0, none⟩), .string (⟨#[47]⟩ : ByteArray)] rfl zb2 ?_; (with_reducible refine (media_Text_Take.calls gb141 t144 (⟨#[47]⟩ : ByteArray) t145 t146 w _ ?side1 ?side2 A4.out).mono ?_); (case side1 => repeat (first | (with_reducible first | exact HI141.out | apply IsS85.alloc | apply IsS85.drewN | apply IsS85.drew | apply IsS85.set_0 | refine IsS85.far ?_ NB141_140.out _) | exact HI141.out)); (case side2 => repeat (first | (with_reducible first | exact HB.out | apply below_alloc | apply pw_below_drewN | apply below_drew1 | refine below_set ?_ (IsS85.ge HI141.out) | refine below_set ?_ GE140.out) | exact HB.out)); rintro e w13 ⟨rfl, hi, hb, hk⟩; refine ⟨_, rfl, ?_⟩; have n0_ := Aside0.mk (KeepBut.blk hk (g' := gb140) (o := .cells #[.string (⟨#[]⟩ : ByteArray), .string (⟨#[]⟩ : ByteArray), .slice none 0 0] 40 (0, 0)) zb30 NB140_141.out zb45); have n1_ := Aside0.mk (hb); have n2_ := Aside0.mk (hi); clear BK140; clear HB; clear HI141; have BK140 := n0_; have HB := n1_; have HI141 := n2_; clear n0_ n1_ n2_; (try clear hb); (try clear hb2); (try clear hk); (try clear hi)) | ((with_reducible refine gate_callee (f := 52) rfl ?_); refine goesL_ (some 14) rfl rfl Tryz.func52 zb9 rfl #[.pointer (some ⟨gb141, 0, none⟩)] rfl zb2 ?_; (with_reducible refine (media_Text_Token.calls k gb141 t146 t147 t148 w _ ?side1 ?side2 A5.out).mono ?_); (case side1 => repeat (first | (with_reducible first | exact HI141.out | apply IsS85.alloc | apply IsS85.drewN | apply IsS85.drew | apply IsS85.set_0 | refine IsS85.far ?_ NB141_140.out _) | exact HI141.out)); (case side2 => repeat (first | (with_reducible first | exact HB.out | apply below_alloc | apply pw_below_drewN | apply below_drew1 | refine below_set ?_ (IsS85.ge HI141.out) | refine below_set ?_ GE140.out) | exact HB.out)); rintro e w14 ⟨rfl, hi, hb, hk⟩; refine ⟨_, rfl, ?_⟩; have n0_ := Aside0.mk (KeepBut.blk hk (g' := gb140) (o := .cells #[.string (⟨#[]⟩ : ByteArray), .string (⟨#[]⟩ : ByteArray), .slice none 0 0] 40 (0, 0)) zb30 NB140_141.out zb45); have n1_ := Aside0.mk (hb); have n2_ := Aside0.mk (hi); clear BK140; clear HB; clear HI141; have BK140 := n0_; have HB := n1_; have HI141 := n2_; clear n0_ n1_ n2_; (try clear hb); (try clear hb2); (try clear hk); (try clear hi)) | ((with_reducible refine gate_callee (f := 54) rfl ?_); refine goesL_ (some 16) rfl rfl Tryz.func54 zb9 rfl #[.pointer (some ⟨gb141, 0, none⟩)] rfl zb2 ?_; (with_reducible refine (media_Text_Params.calls k gb141 t148 t149 t152 t153 w _ ?side1 ?side2 A6.out).mono ?_); (case side1 => repeat (first | (with_reducible first | exact HI141.out | apply IsS85.alloc | apply IsS85.drewN | apply IsS85.drew | apply IsS85.set_0 | refine IsS85.far ?_ NB141_140.out _) | exact HI141.out)); (case side2 => repeat (first | (with_reducible first | exact HB.out | apply below_alloc | apply pw_below_drewN | apply below_drew1 | refine below_set ?_ (IsS85.ge HI141.out) | refine below_set ?_ GE140.out) | exact HB.out)); rintro e w15 ⟨v150, rfl, ho0, hi, hb, hk⟩; refine ⟨_, rfl, ?_⟩; have n0_ := Aside0.mk (KeepBut.blk hk (g' := gb140) (o := .cells #[.string (⟨#[]⟩ : ByteArray), .string (⟨#[]⟩ : ByteArray), .slice none 0 0] 40 (0, 0)) zb30 NB140_141.out zb45); have n1_ := Aside0.mk (Kd.R_lower ho0 (below_size (by repeat (first | (with_reducible first | exact HB.out | apply below_alloc | apply pw_below_drewN | apply below_drew1 | refine below_set ?_ (IsS85.ge HI141.out) | refine below_set ?_ GE140.out) | exact HB.out)))); have n2_ := Aside0.mk (hb); have n3_ := Aside0.mk (hi); clear BK140; clear HB; clear HI141; have BK140 := n0_; have HO151 := n1_; have HB := n2_; have HI141 := n3_; clear n0_ n1_ n2_ n3_; (try clear hb); (try clear hb2); (try clear hk); (try clear hi); (try clear ho0)))
 (try simp only [Act.put, List.setIfInBounds_toArray, List.set_cons_zero, List.set_cons_succ])
 go_cut [40] (fun v40 wc => ∃ (kq : Nat) (x40_6 : Bool), v40 = .bool x40_6 ∧ Aside0 (media_Parse.j0 kq t143 t147 t149 x40_6 = some (r1, r2, r3, r4)) ∧ Aside0 (kq ≤ k) ∧ Aside0 (Kd.R k50 50 wc w.heap.size (fun _ => True) v150 t149) ∧ Aside0 (wc.heap[gb140]? = some (.cells #[.string (⟨#[]⟩ : ByteArray), .string (⟨#[]⟩ : ByteArray), (.slice none 0 0)] 40 (0, 0))) ∧ Aside0 (Below w.heap.size w wc))
 case first =>
  have H := HC7.out
  clear HC7
  by_cases c16 : t143.toList = ([] : List UInt8)
  ·rw [if_pos c16] at H
   have c16b0 : (t143.toList == ([] : List UInt8)) = true := beq_iff_eq.mpr c16
   have c16b1 : (t143.toList != ([] : List UInt8)) = false := bne_eq_false_iff_eq.mpr c16
   clear c16
   (first | rw [c16b0] | (simp only [i64_w, i32_w]; rw [c16b0]) | skip)
   have H' := Aside0.mk H
   clear H
   go_wp2
   go_meet
   case rel => exact ⟨_, (true), zb4, H', ⟨by first | omega | exact Nat.le_refl _⟩, ⟨by (with_reducible repeat (first | apply Kd.R_alloc | apply Kd.R_drewN | apply Kd.R_drew)); exact HO151.out⟩, ⟨by (with_reducible repeat (first | refine blk_drewN ?_ _ | refine blk_drew ?_ | refine blk_alloc ?_ _)); exact BK140.out⟩, ⟨by repeat (first | (with_reducible first | exact HB.out | apply below_alloc | apply pw_below_drewN | apply below_drew1 | refine below_set ?_ (IsS85.ge HI141.out) | refine below_set ?_ GE140.out) | exact HB.out)⟩⟩
  ·rw [if_neg c16] at H
   have c16b0 : (t143.toList == ([] : List UInt8)) = false := beq_eq_false_iff_ne.mpr c16
   have c16b1 : (t143.toList != ([] : List UInt8)) = true := bne_iff_ne.mpr c16
   (first | rw [c16b0] | (simp only [i64_w, i32_w]; rw [c16b0]) | skip)
   by_cases c17 : t145 = true
   ·subst c17
    replace H : (if t147.toList = ([] : List UInt8) then (media_Parse.j0 k t143 t147 t149 true) else (if t152 = true then (if t143.toList = ([42] : List UInt8) then (media_Parse.j0 k t143 t147 t149 (t147.toList != ([42] : List UInt8))) else (media_Parse.j0 k t143 t147 t149 false)) else (media_Parse.j0 k t143 t147 t149 true))) = some (r1, r2, r3, r4) := by rw [if_pos rfl] at H; exact H
    by_cases c18 : t147.toList = ([] : List UInt8)
    ·rw [if_pos c18] at H
     have c18b0 : (t147.toList == ([] : List UInt8)) = true := beq_iff_eq.mpr c18
     have c18b1 : (t147.toList != ([] : List UInt8)) = false := bne_eq_false_iff_eq.mpr c18
     clear c18
     have H' := Aside0.mk H
     clear H
     go_wp2
     go_meet
     case rel => exact ⟨_, (true), zb4, H', ⟨by first | omega | exact Nat.le_refl _⟩, ⟨by (with_reducible repeat (first | apply Kd.R_alloc | apply Kd.R_drewN | apply Kd.R_drew)); exact HO151.out⟩, ⟨by (with_reducible repeat (first | refine blk_drewN ?_ _ | refine blk_drew ?_ | refine blk_alloc ?_ _)); exact BK140.out⟩, ⟨by repeat (first | (with_reducible first | exact HB.out | apply below_alloc | apply pw_below_drewN | apply below_drew1 | refine below_set ?_ (IsS85.ge HI141.out) | refine below_set ?_ GE140.out) | exact HB.out)⟩⟩
    ·rw [if_neg c18] at H
     have c18b0 : (t147.toList == ([] : List UInt8)) = false := beq_eq_false_iff_ne.mpr c18
     have c18b1 : (t147.toList != ([] : List UInt8)) = true := bne_iff_ne.mpr c18
     by_cases c19 : t152 = true
     ·subst c19
      replace H : (if t143.toList = ([42] : List UInt8) then (media_Parse.j0 k t143 t147 t149 (t147.toList != ([42] : List UInt8))) else (media_Parse.j0 k t143 t147 t149 false)) = some (r1, r2, r3, r4) := by rw [if_pos rfl] at H; exact H
      by_cases c20 : t143.toList = ([42] : List UInt8)
      ·rw [if_pos c20] at H
       have c20b0 : (t143.toList == ([42] : List UInt8)) = true := beq_iff_eq.mpr c20
       have c20b1 : (t143.toList != ([42] : List UInt8)) = false := bne_eq_false_iff_eq.mpr c20
       clear c20
       have H' := Aside0.mk H
       clear H
       go_wp2
       go_meet
       case rel => exact ⟨_, ((t147.toList != ([42] : List UInt8))), zb4, H', ⟨by first | omega | exact Nat.le_refl _⟩, ⟨by (with_reducible repeat (first | apply Kd.R_alloc | apply Kd.R_drewN | apply Kd.R_drew)); exact HO151.out⟩, ⟨by (with_reducible repeat (first | refine blk_drewN ?_ _ | refine blk_drew ?_ | refine blk_alloc ?_ _)); exact BK140.out⟩, ⟨by repeat (first | (with_reducible first | exact HB.out | apply below_alloc | apply pw_below_drewN | apply below_drew1 | refine below_set ?_ (IsS85.ge HI141.out) | refine below_set ?_ GE140.out) | exact HB.out)⟩⟩
      ·rw [if_neg c20] at H
       have c20b0 : (t143.toList == ([42] : List UInt8)) = false := beq_eq_false_iff_ne.mpr c20
       have c20b1 : (t143.toList != ([42] : List UInt8)) = true := bne_iff_ne.mpr c20
       have H' := Aside0.mk H
       clear H
       go_wp2
       go_meet
       case rel => exact ⟨_, (false), zb4, H', ⟨by first | omega | exact Nat.le_refl _⟩, ⟨by (with_reducible repeat (first | apply Kd.R_alloc | apply Kd.R_drewN | apply Kd.R_drew)); exact HO151.out⟩, ⟨by (with_reducible repeat (first | refine blk_drewN ?_ _ | refine blk_drew ?_ | refine blk_alloc ?_ _)); exact BK140.out⟩, ⟨by repeat (first | (with_reducible first | exact HB.out | apply below_alloc | apply pw_below_drewN | apply below_drew1 | refine below_set ?_ (IsS85.ge HI141.out) | refine below_set ?_ GE140.out) | exact HB.out)⟩⟩
     ·replace c19 := Bool.eq_false_iff.mpr c19
      subst c19
      replace H : (media_Parse.j0 k t143 t147 t149 true) = some (r1, r2, r3, r4) := by rw [if_neg (show ¬ (false = true) by decide)] at H; exact H
      have H' := Aside0.mk H
      clear H
      go_wp2
      go_meet
      case rel => exact ⟨_, (true), zb4, H', ⟨by first | omega | exact Nat.le_refl _⟩, ⟨by (with_reducible repeat (first | apply Kd.R_alloc | apply Kd.R_drewN | apply Kd.R_drew)); exact HO151.out⟩, ⟨by (with_reducible repeat (first | refine blk_drewN ?_ _ | refine blk_drew ?_ | refine blk_alloc ?_ _)); exact BK140.out⟩, ⟨by repeat (first | (with_reducible first | exact HB.out | apply below_alloc | apply pw_below_drewN | apply below_drew1 | refine below_set ?_ (IsS85.ge HI141.out) | refine below_set ?_ GE140.out) | exact HB.out)⟩⟩
   ·replace c17 := Bool.eq_false_iff.mpr c17
    subst c17
    replace H : (media_Parse.j0 k t143 t147 t149 true) = some (r1, r2, r3, r4) := by rw [if_neg (show ¬ (false = true) by decide)] at H; exact H
    have H' := Aside0.mk H
    clear H
    go_wp2
    go_meet
    case rel => exact ⟨_, (true), zb4, H', ⟨by first | omega | exact Nat.le_refl _⟩, ⟨by (with_reducible repeat (first | apply Kd.R_alloc | apply Kd.R_drewN | apply Kd.R_drew)); exact HO151.out⟩, ⟨by (with_reducible repeat (first | refine blk_drewN ?_ _ | refine blk_drew ?_ | refine blk_alloc ?_ _)); exact BK140.out⟩, ⟨by repeat (first | (with_reducible first | exact HB.out | apply below_alloc | apply pw_below_drewN | apply below_drew1 | refine below_set ?_ (IsS85.ge HI141.out) | refine below_set ?_ GE140.out) | exact HB.out)⟩⟩
 case rest =>
  clear HC7
  try clear c1
  try clear c2
  try clear p2
  try clear c3
  try clear c5
  try clear c16
  try clear c16b0
  try clear c16b1
  try clear c17
  try clear c18
  try clear c18b0
  try clear c18b1
  try clear c19
  try clear c20
  try clear c20b0
  try clear c20b1
  try clear hcz10_0
  try clear hfz10_0
  obtain ⟨kq, x40_6, rfl, HA, HJ6, HO_8, BK140, HB⟩ := hcut
  cases kq with
  | zero => exact absurd HA.out (by simp [media_Parse.j0])
  | succ kj6 =>
   have H := HA.out
   clear HA
   simp only [media_Parse.j0] at H
   by_cases c21 : x40_6 = true
   ·subst c21
    replace H : (some ((⟨#[]⟩ : ByteArray), (⟨#[]⟩ : ByteArray), ([] : List (S50)), 130)) = some (r1, r2, r3, r4) := by rw [if_pos rfl] at H; exact H
    simp only [Option.some.injEq, Prod.mk.injEq] at H
    obtain ⟨rfl, rfl, rfl, rfl⟩ := H
    have hcz22_0 : wc.cell? ⟨gb140, 0, none⟩ = some (.string (⟨#[]⟩ : ByteArray)) := (blk_cell BK140.out 0).trans rfl
    have hcz22_1 : wc.cell? ⟨gb140, 1, none⟩ = some (.string (⟨#[]⟩ : ByteArray)) := (blk_cell BK140.out 1).trans rfl
    have hcz22_2 : wc.cell? ⟨gb140, 2, none⟩ = some (.slice none 0 0) := (blk_cell BK140.out 2).trans rfl
    have hfz22_0 := blk_frozen BK140.out 0
    have hfz22_1 := blk_frozen BK140.out 1
    have hfz22_2 := blk_frozen BK140.out 2
    go_wp2
    refine bodyPost_ret (results_ct rfl _ _ gb140 40 #[.string (⟨#[]⟩ : ByteArray), .string (⟨#[]⟩ : ByteArray), .slice none 0 0] (0, 0) _ rfl (by (with_reducible repeat (first | refine blk_drewN ?_ _ | refine blk_drew ?_ | refine blk_alloc ?_ _)); refine blk_put (cs := #[.string (⟨#[]⟩ : ByteArray), .string (⟨#[]⟩ : ByteArray), .slice none 0 0]) ?_ 2 _ rfl; (with_reducible repeat (first | refine blk_drewN ?_ _ | refine blk_drew ?_ | refine blk_alloc ?_ _)); refine blk_put (cs := #[.string (⟨#[]⟩ : ByteArray), .string (⟨#[]⟩ : ByteArray), .slice none 0 0]) ?_ 1 _ rfl; (with_reducible repeat (first | refine blk_drewN ?_ _ | refine blk_drew ?_ | refine blk_alloc ?_ _)); refine blk_put (cs := #[.string (⟨#[]⟩ : ByteArray), .string (⟨#[]⟩ : ByteArray), .slice none 0 0]) ?_ 0 _ rfl; (with_reducible repeat (first | refine blk_drewN ?_ _ | refine blk_drew ?_ | refine blk_alloc ?_ _)); exact BK140.out) Tryz.underlying40 rfl zb9) rfl ?_
    exact ⟨_, by first | rfl | (simp [errW_none, errW_some, bne_nil_] <;> rfl) | (simp [*, errW_none, errW_some] <;> rfl), by first | exact Kd.R_nil _ _ _ _ _ | exact Kd.N_nil _ _ _ _ _ | exact Kd.V_nil _ _ _ _ _ | exact Kd.Q_nil _ _ _ _ _ | exact Kd.S_nil _ _ _ _ _, zb23⟩
   ·replace c21 := Bool.eq_false_iff.mpr c21
    subst c21
    replace H : ((media_Small.f t143).bind fun t154 => ((media_Small.f t147).bind fun t155 => (some (t154, t155, t149, 0)))) = some (r1, r2, r3, r4) := by rw [if_neg (show ¬ (false = true) by decide)] at H; exact H
    replace H := Option.bind_eq_some_iff.mp H
    obtain ⟨t154, A230, H⟩ := H
    replace H : ((media_Small.f t147).bind fun t155 => (some (t154, t155, t149, 0))) = some (r1, r2, r3, r4) := H
    have A23 := Aside0.mk A230
    clear A230
    replace H := Option.bind_eq_some_iff.mp H
    obtain ⟨t155, A240, H⟩ := H
    replace H : (some (t154, t155, t149, 0)) = some (r1, r2, r3, r4) := H
    have A24 := Aside0.mk A240
    clear A240
    simp only [Option.some.injEq, Prod.mk.injEq] at H
    obtain ⟨rfl, rfl, rfl, rfl⟩ := H
    go_wp2_with (first | ((with_reducible refine gate_callee (f := 55) rfl ?_); refine goesL_ (some 43) rfl rfl Tryz.func55 zb9 rfl #[.string t143] rfl zb2 ?_; (with_reducible refine (media_Small.calls t143 t154 _ A23.out).mono ?_); rintro e w25 ⟨rfl, hb⟩; refine ⟨_, rfl, ?_⟩; have n0_ := Aside0.mk (Kd.R_below (by (with_reducible repeat (first | apply Kd.R_alloc | apply Kd.R_drewN | apply Kd.R_drew)); exact HO_8.out) hb); have n1_ := Aside0.mk (blk_below (g := gb140) (o := .cells #[.string (⟨#[]⟩ : ByteArray), .string (⟨#[]⟩ : ByteArray), .slice none 0 0] 40 (0, 0)) zb30 hb); have n2_ := Aside0.mk (below_step zb23 hb); clear HO_8; clear BK140; clear HB; have HO_8 := n0_; have BK140 := n1_; have HB := n2_; clear n0_ n1_ n2_; (try clear hb); (try clear hb2); (try clear hk); (try clear hi)) | ((with_reducible refine gate_callee (f := 55) rfl ?_); refine goesL_ (some 45) rfl rfl Tryz.func55 zb9 rfl #[.string t147] rfl zb2 ?_; (with_reducible refine (media_Small.calls t147 t155 _ A24.out).mono ?_); rintro e w26 ⟨rfl, hb⟩; refine ⟨_, rfl, ?_⟩; have n0_ := Aside0.mk (Kd.R_below (by (with_reducible repeat (first | apply Kd.R_alloc | apply Kd.R_drewN | apply Kd.R_drew)); exact HO_8.out) hb); have n1_ := Aside0.mk (blk_below (g := gb140) (o := .cells #[.string (⟨#[]⟩ : ByteArray), .string (⟨#[]⟩ : ByteArray), .slice none 0 0] 40 (0, 0)) zb30 hb); have n2_ := Aside0.mk (below_step zb23 hb); clear HO_8; clear BK140; clear HB; have HO_8 := n0_; have BK140 := n1_; have HB := n2_; clear n0_ n1_ n2_; (try clear hb); (try clear hb2); (try clear hk); (try clear hi); obtain ⟨Ao27, co27, eo27⟩ := Kd.R_slice HO_8.out; subst eo27; have hcz28_0 : w26.cell? ⟨gb140, 0, none⟩ = some (.string (⟨#[]⟩ : ByteArray)) := (blk_cell BK140.out 0).trans rfl; have hcz28_1 : w26.cell? ⟨gb140, 1, none⟩ = some (.string (⟨#[]⟩ : ByteArray)) := (blk_cell BK140.out 1).trans rfl; have hcz28_2 : w26.cell? ⟨gb140, 2, none⟩ = some (.slice none 0 0) := (blk_cell BK140.out 2).trans rfl; have hfz28_0 := blk_frozen BK140.out 0; have hfz28_1 := blk_frozen BK140.out 1; have hfz28_2 := blk_frozen BK140.out 2))
    refine bodyPost_ret (results_ct rfl _ _ gb140 40 #[.string t154, .string t155, .slice Ao27 t149.length co27] (0, 0) _ rfl (by (with_reducible repeat (first | refine blk_drewN ?_ _ | refine blk_drew ?_ | refine blk_alloc ?_ _)); refine blk_put (cs := #[.string t154, .string t155, .slice none 0 0]) ?_ 2 _ rfl; (with_reducible repeat (first | refine blk_drewN ?_ _ | refine blk_drew ?_ | refine blk_alloc ?_ _)); refine blk_put (cs := #[.string t154, .string (⟨#[]⟩ : ByteArray), .slice none 0 0]) ?_ 1 _ rfl; (with_reducible repeat (first | refine blk_drewN ?_ _ | refine blk_drew ?_ | refine blk_alloc ?_ _)); refine blk_put (cs := #[.string (⟨#[]⟩ : ByteArray), .string (⟨#[]⟩ : ByteArray), .slice none 0 0]) ?_ 0 _ rfl; (with_reducible repeat (first | refine blk_drewN ?_ _ | refine blk_drew ?_ | refine blk_alloc ?_ _)); exact BK140.out) Tryz.underlying40 rfl zb9) rfl ?_
    exact ⟨_, by first | rfl | (simp [errW_none, errW_some, bne_nil_] <;> rfl) | (simp [*, errW_none, errW_some] <;> rfl), by (with_reducible repeat (first | apply Kd.R_alloc | apply Kd.R_drewN | apply Kd.R_drew)); exact Kd.R_mono (Kd.R_far (p := ⟨gb140, 2, none⟩) (Kd.R_far (p := ⟨gb140, 1, none⟩) (Kd.R_far (p := ⟨gb140, 0, none⟩) (Kd.R_types HO_8.out BK140.out zb47) (fun _ hk => hk.2) (.string t154)) (fun _ hk => hk.2) (.string t155)) (fun _ hk => hk.2) (.slice Ao27 t149.length co27)) (fun _ hk => trivial), zb23⟩
end Go.Proofs.YtghfbhobpodoeaaGreatDoor.P
/- Px15 -/
namespace Go.Proofs.YtghfbhobpodoeaaGreatDoor.P
open Go.Proofs.YtghfbhobpodoeaaGreatDoor.B
open Go.RowKit Go.Proofs.YtghfbhobpodoeaaGreatDoorW.PrintWords Go.Proofs.YtghfbhobpodoeaaGreatDoorW.PrintLast Go.Proofs.YtghfbhobpodoeaaGreatDoorW.PrintMore
attribute [local go_sem] run_store_float str_leq str_gtr str_geq max2_int min2_int max_two min_two max_three min_three max_four min_four
set_option linter.unusedVariables false
set_option linter.unusedSimpArgs false
def media_Param.l0 : Nat → ByteArray → List (S50) → Int → Int → Option (ByteArray × Bool)
  | 0, _, _, _, _ => none
  | k + 1, x1, x9, x10, x11 => if x11 < x10 then (if 0 ≤ x11 then (if x11 < (x9.length : Int) then (if ((rd_T50 x9 x11).f0).toList = x1.toList then (some ((rd_T50 x9 x11).f1, true)) else (media_Param.l0 k x1 x9 x10 (wrap64 (x11 + 1)))) else (none)) else (none)) else (some ((⟨#[]⟩ : ByteArray), false))
def media_Param.f (k : Nat) (a0_0 : ByteArray) (a0_1 : ByteArray) (l0_2 : List (S50)) (a1 : ByteArray) : Option (ByteArray × Bool) := media_Param.l0 k a1 l0_2 (l0_2.length : Int) 0
set_option maxHeartbeats 8000000 in
set_option maxRecDepth 100000 in
theorem media_Param.calls (k : Nat) (a0_0 : ByteArray) (a0_1 : ByteArray) (A0_2 : Option Addr) (c0_2 : Nat) (l0_2 : List (S50)) (a1 : ByteArray) (r1 : ByteArray) (r2 : Bool) (w : World) (hr0_2 : Kd.C k50 w A0_2 l0_2.length l0_2) (hc0_2 : l0_2.length ≤ c0_2) (h : media_Param.f k a0_0 a0_1 l0_2 a1 = some (r1, r2)) :
  Calls Tryz.prog 31 #[.agg #[.string a0_0, .string a0_1, .slice A0_2 l0_2.length c0_2], .string a1] w fun e w' => e = .returned (.tuple #[.string r1, .bool r2]) ∧ Below w.heap.size w w' := by
 have hu40 := Tryz.underlying40
 have hu50 := Tryz.underlying50
 have HR0_2 := Aside0.mk hr0_2
 have HC0_2 := Aside0.mk hc0_2
 clear hr0_2 hc0_2
 have HB := Aside0.mk (Below.refl w.heap.size w)
 have H : (media_Param.l0 k a1 l0_2 (l0_2.length : Int) 0) = some (r1, r2) := h
 clear h
 have H' := Aside0.mk H
 clear H
 go_enter Tryz.func31, Tryz.ntmps31
 go_wp2_with (first | ((with_reducible refine gate_dst (N := 2) rfl ?_); refine box_event ?hg (N := 2) ?hd (cs := #[.string a0_0, .string a0_1, .slice A0_2 l0_2.length c0_2]) (t := 40) ?hr ?_; (case hd => rfl); (case hg => rfl); (case hr => first | (go_simp; done) | (go_simp; rfl)); intro gb156 hg w3 hbox hb; have n0_ := Aside0.mk (below_step zb0 hb); have n1_ := Aside0.mk (hbox); have n2_ := Aside0.mk ((by rw [hg]; exact (below_size zb0) : w.heap.size ≤ gb156)); have n3_ := Aside0.mk ((by rw [hg]; exact (below_size zb0) : w.heap.size ≤ gb156)); clear HB; have HB := n0_; have BK156 := n1_; have GW156 := n2_; have GE156 := n3_; clear n0_ n1_ n2_ n3_; clear hb hbox hg; have hcz4_0 : w3.cell? ⟨gb156, 0, none⟩ = some (.string a0_0) := (blk_cell BK156.out 0).trans rfl; have hcz4_1 : w3.cell? ⟨gb156, 1, none⟩ = some (.string a0_1) := (blk_cell BK156.out 1).trans rfl; have hcz4_2 : w3.cell? ⟨gb156, 2, none⟩ = some (.slice A0_2 l0_2.length c0_2) := (blk_cell BK156.out 2).trans rfl; have hfz4_0 := blk_frozen BK156.out 0; have hfz4_1 := blk_frozen BK156.out 1; have hfz4_2 := blk_frozen BK156.out 2))
 first | go_loopg [11] k (fun kq v11 w' => ∃ (x11_1 : Int), v11 = .int .i64 x11_1 ∧ Aside0 (media_Param.l0 kq a1 l0_2 (l0_2.length : Int) x11_1 = some (r1, r2)) ∧ Aside0 (kq ≤ k) ∧ Aside0 (w'.heap[gb156]? = some (.cells #[.string a0_0, .string a0_1, (.slice A0_2 l0_2.length c0_2)] 40 (0, 0))) ∧ Aside0 (Below w.heap.size w w')) | (go_simp; go_loopg [11] k (fun kq v11 w' => ∃ (x11_1 : Int), v11 = .int .i64 x11_1 ∧ Aside0 (media_Param.l0 kq a1 l0_2 (l0_2.length : Int) x11_1 = some (r1, r2)) ∧ Aside0 (kq ≤ k) ∧ Aside0 (w'.heap[gb156]? = some (.cells #[.string a0_0, .string a0_1, (.slice A0_2 l0_2.length c0_2)] 40 (0, 0))) ∧ Aside0 (Below w.heap.size w w')))
 case atStart => exact ⟨(0), zb4, H', ⟨Nat.le_refl _⟩, ⟨by (with_reducible repeat (first | refine blk_drewN ?_ _ | refine blk_drew ?_ | refine blk_alloc ?_ _)); exact BK156.out⟩, ⟨by repeat (first | (with_reducible first | exact HB.out | apply below_alloc | apply pw_below_drewN | apply below_drew1 | refine below_set ?_ GE156.out) | exact HB.out)⟩⟩
 case round =>
  clear H'
  try clear p2
  try clear c3
  try clear hcz4_0
  try clear hcz4_1
  try clear hcz4_2
  try clear hfz4_0
  try clear hfz4_1
  try clear hfz4_2
  obtain ⟨x11_1, rfl, HA, HK1, BK156, HB⟩ := hrel
  cases gk with
  | zero => exact absurd HA.out (by simp [media_Param.l0])
  | succ k1 =>
   have H := HA.out
   clear HA
   simp only [media_Param.l0] at H
   by_cases c5 : x11_1 < (l0_2.length : Int)
   ·rw [if_pos c5] at H
    have c5b0 : decide (x11_1 < (l0_2.length : Int)) = true := decide_eq_true c5
    clear c5
    by_cases c6 : 0 ≤ x11_1
    ·rw [if_pos c6] at H
     have c6b0 : decide (0 ≤ x11_1) = true := decide_eq_true c6
     clear c6
     by_cases c7 : x11_1 < (l0_2.length : Int)
     ·rw [if_pos c7] at H
      have c7b0 : decide (x11_1 < (l0_2.length : Int)) = true := decide_eq_true c7
      clear c7
      by_cases c8 : ((rd_T50 l0_2 x11_1).f0).toList = a1.toList
      ·rw [if_pos c8] at H
       have c8b0 : (((rd_T50 l0_2 x11_1).f0).toList == a1.toList) = true := beq_iff_eq.mpr c8
       have c8b1 : (((rd_T50 l0_2 x11_1).f0).toList != a1.toList) = false := bne_eq_false_iff_eq.mpr c8
       clear c8
       simp only [Option.some.injEq, Prod.mk.injEq] at H
       obtain ⟨rfl, rfl⟩ := H
       have p157 : 0 ≤ (x11_1 : Int) := of_decide_eq_true zb3
       have q157 : x11_1 < (l0_2.length : Int) := of_decide_eq_true zb3
       obtain ⟨ad157, e157, hx157_0, hx157_1⟩ := at_T50 HR0_2.out x11_1 p157 q157
       cases e157
       replace hx157_0 := (HB.out.cell (World.block_lt_of_cell? w _ hx157_0)).trans hx157_0
       replace hx157_1 := (HB.out.cell (World.block_lt_of_cell? w _ hx157_1)).trans hx157_1
       replace p157 := eq_true p157
       replace q157 := eq_true q157
       go_wp2_with (first | ((with_reducible refine gate_dst (N := 7) rfl ?_); refine box_event ?hg (N := 7) ?hd (cs := #[.string (⟨#[]⟩ : ByteArray), .string (⟨#[]⟩ : ByteArray)]) (t := 50) ?hr ?_; (case hd => rfl); (case hg => rfl); (case hr => first | (go_simp; done) | (go_simp; rfl)); intro gb158 hg w9 hbox hb; have n0_ := Aside0.mk (blk_below (g := gb156) (o := .cells #[.string a0_0, .string a0_1, .slice (some ad157) l0_2.length c0_2] 40 (0, 0)) zb37 hb); have n1_ := Aside0.mk (below_step zb29 hb); have n2_ := Aside0.mk (hbox); have n3_ := Aside0.mk ((by rw [hg]; exact (below_size zb29) : w.heap.size ≤ gb158)); have n4_ := Aside0.mk ((by rw [hg]; exact (below_size zb29) : w.heap.size ≤ gb158)); have n5_ := Aside0.mk ((by rw [hg]; exact Nat.ne_of_lt (blk_lt (g := gb156) (o := .cells #[.string a0_0, .string a0_1, .slice (some ad157) l0_2.length c0_2] 40 (0, 0)) zb37) : gb156 ≠ gb158)); have n6_ := Aside0.mk ((by rw [hg]; exact Nat.ne_of_gt (blk_lt (g := gb156) (o := .cells #[.string a0_0, .string a0_1, .slice (some ad157) l0_2.length c0_2] 40 (0, 0)) zb37) : gb158 ≠ gb156)); clear BK156; clear HB; have BK156 := n0_; have HB := n1_; have BK158 := n2_; have GW158 := n3_; have GE158 := n4_; have NB156_158 := n5_; have NB158_156 := n6_; clear n0_ n1_ n2_ n3_ n4_ n5_ n6_; clear hb hbox hg; have hnb10 := NB158_156.out; have hnc10 := NB156_158.out; have hcz11_0 : w9.cell? ⟨gb158, 0, none⟩ = some (.string (⟨#[]⟩ : ByteArray)) := (blk_cell BK158.out 0).trans rfl; have hcz11_1 : w9.cell? ⟨gb158, 1, none⟩ = some (.string (⟨#[]⟩ : ByteArray)) := (blk_cell BK158.out 1).trans rfl; have hfz11_0 := blk_frozen BK158.out 0; have hfz11_1 := blk_frozen BK158.out 1))
       go_ret2
       exact ⟨zb6, (by repeat (first | (with_reducible first | exact HB.out | apply below_alloc | apply pw_below_drewN | apply below_drew1 | refine below_set ?_ GE156.out | refine below_set ?_ GE158.out) | exact HB.out))⟩
      ·rw [if_neg c8] at H
       have c8b0 : (((rd_T50 l0_2 x11_1).f0).toList == a1.toList) = false := beq_eq_false_iff_ne.mpr c8
       have c8b1 : (((rd_T50 l0_2 x11_1).f0).toList != a1.toList) = true := bne_iff_ne.mpr c8
       have H' := Aside0.mk H
       clear H
       have p157 : 0 ≤ (x11_1 : Int) := of_decide_eq_true zb3
       have q157 : x11_1 < (l0_2.length : Int) := of_decide_eq_true zb3
       obtain ⟨ad157, e157, hx157_0, hx157_1⟩ := at_T50 HR0_2.out x11_1 p157 q157
       cases e157
       replace hx157_0 := (HB.out.cell (World.block_lt_of_cell? w _ hx157_0)).trans hx157_0
       replace hx157_1 := (HB.out.cell (World.block_lt_of_cell? w _ hx157_1)).trans hx157_1
       replace p157 := eq_true p157
       replace q157 := eq_true q157
       go_wp2_with (first | ((with_reducible refine gate_dst (N := 7) rfl ?_); refine box_event ?hg (N := 7) ?hd (cs := #[.string (⟨#[]⟩ : ByteArray), .string (⟨#[]⟩ : ByteArray)]) (t := 50) ?hr ?_; (case hd => rfl); (case hg => rfl); (case hr => first | (go_simp; done) | (go_simp; rfl)); intro gb158 hg w12 hbox hb; have n0_ := Aside0.mk (blk_below (g := gb156) (o := .cells #[.string a0_0, .string a0_1, .slice (some ad157) l0_2.length c0_2] 40 (0, 0)) zb37 hb); have n1_ := Aside0.mk (below_step zb29 hb); have n2_ := Aside0.mk (hbox); have n3_ := Aside0.mk ((by rw [hg]; exact (below_size zb29) : w.heap.size ≤ gb158)); have n4_ := Aside0.mk ((by rw [hg]; exact (below_size zb29) : w.heap.size ≤ gb158)); have n5_ := Aside0.mk ((by rw [hg]; exact Nat.ne_of_lt (blk_lt (g := gb156) (o := .cells #[.string a0_0, .string a0_1, .slice (some ad157) l0_2.length c0_2] 40 (0, 0)) zb37) : gb156 ≠ gb158)); have n6_ := Aside0.mk ((by rw [hg]; exact Nat.ne_of_gt (blk_lt (g := gb156) (o := .cells #[.string a0_0, .string a0_1, .slice (some ad157) l0_2.length c0_2] 40 (0, 0)) zb37) : gb158 ≠ gb156)); clear BK156; clear HB; have BK156 := n0_; have HB := n1_; have BK158 := n2_; have GW158 := n3_; have GE158 := n4_; have NB156_158 := n5_; have NB158_156 := n6_; clear n0_ n1_ n2_ n3_ n4_ n5_ n6_; clear hb hbox hg; have hnb13 := NB158_156.out; have hnc13 := NB156_158.out; have hcz14_0 : w12.cell? ⟨gb158, 0, none⟩ = some (.string (⟨#[]⟩ : ByteArray)) := (blk_cell BK158.out 0).trans rfl; have hcz14_1 : w12.cell? ⟨gb158, 1, none⟩ = some (.string (⟨#[]⟩ : ByteArray)) := (blk_cell BK158.out 1).trans rfl; have hfz14_0 := blk_frozen BK158.out 0; have hfz14_1 := blk_frozen BK158.out 1))
       go_roundg k1
       case measure => have := HK1.out; omega
       case rel => exact ⟨(wrap64 (x11_1 + 1)), zb4, H', ⟨by have := HK1.out; omega⟩, ⟨by (with_reducible repeat (first | refine blk_drewN ?_ _ | refine blk_drew ?_ | refine blk_alloc ?_ _)); refine blk_far ?_ NB156_158.out _; (with_reducible repeat (first | refine blk_drewN ?_ _ | refine blk_drew ?_ | refine blk_alloc ?_ _)); refine blk_far ?_ NB156_158.out _; (with_reducible repeat (first | refine blk_drewN ?_ _ | refine blk_drew ?_ | refine blk_alloc ?_ _)); exact BK156.out⟩, ⟨by repeat (first | (with_reducible first | exact HB.out | apply below_alloc | apply pw_below_drewN | apply below_drew1 | refine below_set ?_ GE156.out | refine below_set ?_ GE158.out) | exact HB.out)⟩⟩
     ·rw [if_neg c7] at H
      exact absurd H zb45
    ·rw [if_neg c6] at H
     exact absurd H zb45
   ·rw [if_neg c5] at H
    have c5b0 : decide (x11_1 < (l0_2.length : Int)) = false := decide_eq_false c5
    clear c5
    simp only [Option.some.injEq, Prod.mk.injEq] at H
    obtain ⟨rfl, rfl⟩ := H
    go_wp2
    go_ret2
    exact ⟨zb6, zb29⟩
end Go.Proofs.YtghfbhobpodoeaaGreatDoor.P
/- SpQa -/
namespace Go.Proofs.YtghfbhobpodoeaaGreatDoor.Sp
open Go Go.RowKit Go.Proofs.YtghfbhobpodoeaaGreatDoorW.PrintWords Go.Proofs.YtghfbhobpodoeaaGreatDoorW.PrintLast Go.Proofs.YtghfbhobpodoeaaGreatDoor.O Go.Proofs.YtghfbhobpodoeaaGreatDoor.P
set_option linter.unusedVariables false
set_option linter.unusedSimpArgs false
def putQ (cur : L) (out : List L) : List L := if trim cur = [] then out else out ++ [cur]
def splL : L → Bool → L → List L → List L
  | [], _, cur, out => putQ cur out
  | c :: r, q, cur, out =>
    if c = 34 then splL r (!q) (cur ++ [c]) out
    else if c = 92 ∧ q = true then (match r with
      | [] => putQ (cur ++ [c]) out
      | d :: r' => splL r' q (cur ++ [c, d]) out)
    else if c = 44 ∧ q = false then splL r q [] (putQ cur out)
    else splL r q (cur ++ [c]) out
def split (s : L) : List L := splL s false [] []
theorem putF (s : L) (a b : Nat) (out : List L) : putB (mk s) a b (out.map mk) = (putQ ((s.drop a).take (b - a)) out).map mk := by
  unfold putB trimE putQ
  rw [ext_mk, mk_data, trimS_eq]
  by_cases h : trim ((s.drop a).take (b - a)) = []
  · rw [if_pos h, if_pos (by rw [h]; rfl)]
  · rw [if_neg h, if_neg (by simpa using h)]
    simp
theorem u8c (b : UInt8) (n : Nat) (h : n < 256) : ((b.toNat : Int) = (n : Int)) ↔ b = UInt8.ofNat n := by rw [← u8_eq b n h]; omega
theorem cur_snoc (s : L) (a i : Nat) (b : UInt8) (ha : a ≤ i) (h : s.drop i = b :: s.drop (i + 1)) : (s.drop a).take (i + 1 - a) = (s.drop a).take (i - a) ++ [b] := by
  have h1 : (s.drop a).drop (i - a) = b :: s.drop (i + 1) := by rw [List.drop_drop, show a + (i - a) = i by omega, h]
  have h2 : i + 1 - a = (i - a) + 1 := by omega
  rw [h2, List.take_add_one, ← List.head?_drop, h1]
  rfl
theorem spl_l (s : L) : ∀ (d f i a : Nat) (q : Bool) (out : List L), i + d = s.length → d + 1 ≤ f → a ≤ i → splF (mk s) f i a q (out.map mk) = (splL (s.drop i) q ((s.drop a).take (i - a)) out).map mk := by
  intro d
  induction d using Nat.strongRecOn with
  | _ d ih =>
    intro f i a q out hi hf ha
    obtain ⟨f, rfl⟩ : ∃ f', f = f' + 1 := ⟨f - 1, by omega⟩
    rw [splF, mk_size]
    by_cases hlt : i < s.length
    · rw [if_pos hlt]
      obtain ⟨b, hd, hb⟩ := mk_bt s i hlt
      rw [hb, hd]
      have c34 : ((b.toNat : Int) = 34) ↔ b = 34 := u8c b 34 (by decide)
      have c92 : ((b.toNat : Int) = 92) ↔ b = 92 := u8c b 92 (by decide)
      have c44 : ((b.toNat : Int) = 44) ↔ b = 44 := u8c b 44 (by decide)
      have hsn := cur_snoc s a i b ha hd
      unfold splL
      by_cases h34 : b = 34
      · rw [if_pos (c34.2 h34), if_pos h34, ih (d - 1) (by omega) f (i + 1) a (!q) out (by omega) (by omega) (by omega), hsn]
      · rw [if_neg (fun h => h34 (c34.1 h)), if_neg h34]
        by_cases h92 : b = 92 ∧ q = true
        · rw [if_pos ⟨c92.2 h92.1, h92.2⟩, if_pos h92]
          by_cases hl : i + 1 < s.length
          · obtain ⟨e, hd2, _⟩ := mk_bt s (i + 1) hl
            have hsn2 := cur_snoc s a (i + 1) e (by omega) hd2
            rw [hd2]
            simp only
            rw [ih (d - 2) (by omega) f (i + 2) a q out (by omega) (by omega) (by omega), show i + 2 - a = i + 1 + 1 - a by omega, hsn2, hsn]
            simp
          · have hn : s.drop (i + 1) = [] := List.drop_eq_nil_of_le (by omega)
            rw [hn]
            simp only
            obtain ⟨f, rfl⟩ : ∃ f', f = f' + 1 := ⟨f - 1, by omega⟩
            rw [splF, mk_size, if_neg (by omega), putF, ← hsn, show s.length - a = i + 1 - a by omega]
        · rw [if_neg (fun h => h92 ⟨c92.1 h.1, h.2⟩), if_neg h92]
          by_cases h44 : b = 44 ∧ q = false
          · rw [if_pos ⟨c44.2 h44.1, h44.2⟩, if_pos h44, putF, ih (d - 1) (by omega) f (i + 1) (i + 1) q _ (by omega) (by omega) (by omega)]
            simp
          · rw [if_neg (fun h => h44 ⟨c44.1 h.1, h.2⟩), if_neg h44, ih (d - 1) (by omega) f (i + 1) a q out (by omega) (by omega) (by omega), hsn]
    · obtain rfl : i = s.length := by omega
      rw [if_neg hlt, putF]
      rw [List.drop_of_length_le (Nat.le_refl _)]
      rfl
theorem splitF (s : L) (hs : s.length ≤ 1000000000000) : quality_Split.f (mk s) = some ((split s).map mk) := by
  unfold quality_Split.f
  rw [mk_size, if_pos hs]
  have := spl_l s s.length (s.length + 2) 0 0 false [] (by omega) (by omega) (Nat.le_refl _)
  simpa [split] using this
structure Med where
  t : L
  s : L
  ps : List (L × L)
def mparse (s : L) : Option Med :=
  if (tok (skip s)).1 = [] then none else if (tok (skip s)).2.head? ≠ some 47 then none else
  match pars (tok (tok (skip s)).2.tail).2 with
  | none => none
  | some l => if (tok (tok (skip s)).2.tail).1 = [] then none else if (tok (skip s)).1 = [42] ∧ (tok (tok (skip s)).2.tail).1 ≠ [42] then none else some ⟨low (tok (skip s)).1, low (tok (tok (skip s)).2.tail).1, l⟩
def parse4 (o : Option Med) (q : ByteArray × ByteArray × List S50 × Int) : Prop := match o with
  | some m => q = (mk m.t, mk m.s, pairsB m.ps, 0)
  | none => q.2.2.2 = 130
theorem skipM (s : L) : media_Text_Skip.f (mk s) = some (mk (skip s)) := by
  unfold media_Text_Skip.f
  rw [skipF]
  rfl
theorem j0_bad (k : Nat) (a b : ByteArray) (l : List S50) (hk : 1 ≤ k) : media_Parse.j0 k a b l true = some ((⟨#[]⟩ : ByteArray), (⟨#[]⟩ : ByteArray), ([] : List S50), 130) := by
  obtain ⟨k, rfl⟩ : ∃ m, k = m + 1 := ⟨k - 1, by omega⟩
  rw [media_Parse.j0, if_pos rfl]
theorem j0_ok (k : Nat) (a b : L) (l : List S50) (hk : 1 ≤ k) (ha : a.length ≤ 1000000000000) (hb : b.length ≤ 1000000000000) : media_Parse.j0 k (mk a) (mk b) l false = some (mk (low a), mk (low b), l, 0) := by
  obtain ⟨k, rfl⟩ : ∃ m, k = m + 1 := ⟨k - 1, by omega⟩
  rw [media_Parse.j0, if_neg (by decide), lowF a ha, lowF b hb]
  rfl
theorem mparseF (s : L) (k : Nat) (hs : s.length ≤ 10000000000) (hk : 3 * s.length + 20 ≤ k) : ∃ q, media_Parse.f k (mk s) = some q ∧ parse4 (mparse s) q := by
  have l1 := skip_len s
  have l2 := tok_len (skip s)
  have l3 : (tok (skip s)).2.tail.length ≤ (tok (skip s)).2.length := by rw [List.length_tail]; omega
  unfold media_Parse.f
  rw [skipM]
  simp only [Option.bind_some]
  rw [tokF (skip s) k (by omega) (by omega)]
  simp only [Option.bind_some]
  rw [show (⟨#[47]⟩ : ByteArray) = mk [47] from rfl, take1F]
  simp only [Option.bind_some]
  by_cases hsl : (tok (skip s)).2.head? = some 47
  · rw [if_pos hsl]
    simp only
    have l4 := tok_len (tok (skip s)).2.tail
    rw [tokF (tok (skip s)).2.tail k (by omega) (by omega)]
    simp only [Option.bind_some]
    obtain ⟨q, hq, hp⟩ := paramsF (tok (tok (skip s)).2.tail).2 k (by omega) (by omega)
    rw [hq]
    simp only [Option.bind_some, tl_mk]
    unfold mparse
    by_cases ha : (tok (skip s)).1 = []
    · rw [if_pos ha, if_pos ha, j0_bad k _ _ _ (by omega)]
      exact ⟨_, rfl, rfl⟩
    · have hn : ¬ ((tok (skip s)).2.head? ≠ some 47) := fun h => h hsl
      rw [if_neg ha, if_neg ha, if_pos trivial, if_neg hn]
      by_cases hb : (tok (tok (skip s)).2.tail).1 = []
      · rw [if_pos hb, j0_bad k _ _ _ (by omega)]
        refine ⟨_, rfl, ?_⟩
        cases pars (tok (tok (skip s)).2.tail).2 with
        | none => rfl
        | some l =>
          simp only
          rw [if_pos hb]
          rfl
      · rw [if_neg hb]
        cases ho : pars (tok (tok (skip s)).2.tail).2 with
        | none =>
          rw [ho] at hp
          have e : q.2.1 = false := congrArg Prod.snd hp
          rw [e, if_neg (by decide), j0_bad k _ _ _ (by omega)]
          exact ⟨_, rfl, rfl⟩
        | some l =>
          rw [ho] at hp
          have e : q.2.1 = true := congrArg Prod.snd hp
          have e1 : q.1 = pairsB ([] ++ l) := congrArg Prod.fst hp
          rw [List.nil_append] at e1
          simp only
          rw [e, if_pos rfl, if_neg hb, e1]
          by_cases h42 : (tok (skip s)).1 = [42]
          · rw [if_pos h42]
            by_cases hb42 : (tok (tok (skip s)).2.tail).1 = [42]
            · rw [show ((tok (tok (skip s)).2.tail).1 != [42]) = false from by rw [hb42]; rfl, j0_ok k _ _ _ (by omega) (by omega) (by omega), if_neg (fun h => h.2 hb42)]
              exact ⟨_, rfl, rfl⟩
            · rw [show ((tok (tok (skip s)).2.tail).1 != [42]) = true from by simpa using hb42, j0_bad k _ _ _ (by omega), if_pos ⟨h42, hb42⟩]
              exact ⟨_, rfl, rfl⟩
          · rw [if_neg h42, j0_ok k _ _ _ (by omega) (by omega) (by omega), if_neg (fun h => h42 h.1)]
            exact ⟨_, rfl, rfl⟩
  · rw [if_neg hsl]
    simp only
    have l4 := tok_len (tok (skip s)).2
    rw [tokF (tok (skip s)).2 k (by omega) (by omega)]
    simp only [Option.bind_some]
    obtain ⟨q, hq, hp⟩ := paramsF (tok (tok (skip s)).2).2 k (by omega) (by omega)
    rw [hq]
    simp only [Option.bind_some, tl_mk]
    unfold mparse
    by_cases ha : (tok (skip s)).1 = []
    · rw [if_pos ha, if_pos ha, j0_bad k _ _ _ (by omega)]
      exact ⟨_, rfl, rfl⟩
    · rw [if_neg ha, if_neg ha, if_pos hsl, if_neg (by decide), j0_bad k _ _ _ (by omega)]
      exact ⟨_, rfl, rfl⟩
end Go.Proofs.YtghfbhobpodoeaaGreatDoor.Sp
/- Oato -/
namespace Go.Proofs.YtghfbhobpodoeaaGreatDoor.O
open Go.RowKit Go.Proofs.YtghfbhobpodoeaaGreatDoorW.PrintWords Go.Proofs.YtghfbhobpodoeaaGreatDoorW.PrintLast Go.Proofs.YtghfbhobpodoeaaGreatDoorW.PrintMore
set_option linter.unusedVariables false
set_option linter.unusedSimpArgs false
def atoiF (l : List UInt8) : Int × Option Int := match Lib.atoiAll l with
  | .ok v => (v, none)
  | Lib.NumEnd.syntax => (0, some 0)
  | .range => (Lib.atoiSat l, some 1)
def strconv_Atoi.f (a0 : ByteArray) : Option (Int × Option Int) := if a0.size ≤ 281474976710656 then some (atoiF a0.data.toList) else none
theorem strconv_Atoi.calls (a0 : ByteArray) (r1 : Int) (r2 : Option Int) (w : World) (hG : Glob w) (h : strconv_Atoi.f a0 = some (r1, r2)) :
    Calls Tryz.prog 29 #[.string a0] w fun e w' => ∃ pv, ErrIs r2 pv ∧ e = .returned (.tuple #[.int .i64 r1, pv]) ∧ Below w.heap.size w w' := by
  unfold strconv_Atoi.f at h
  split at h
  case isFalse => exact absurd h zb45
  rename_i hb
  have h' := Option.some.inj h
  unfold atoiF at h'
  split at h'
  · rename_i v hv
    obtain ⟨rfl, rfl⟩ := Prod.mk.inj h'
    refine (Tryz.strconv_Atoi_ok a0 zb42 v hv w).mono ?_
    rintro e w' ⟨rfl, rfl | ⟨t, rfl⟩⟩
    · exact ⟨_, rfl, rfl, Below.refl _ _⟩
    · exact ⟨_, rfl, rfl, below_bytes _ _ _⟩
  · rename_i hv
    obtain ⟨rfl, rfl⟩ := Prod.mk.inj h'
    obtain ⟨t, p, hs⟩ := hG.syn
    refine (Tryz.strconv_Atoi_syntax_var a0 hb hv t p w hs).mono ?_
    rintro e w' ⟨n, rfl, _, _, hbel⟩
    exact ⟨_, ⟨_, _, rfl⟩, rfl, hbel⟩
  · rename_i hv
    obtain ⟨rfl, rfl⟩ := Prod.mk.inj h'
    obtain ⟨t, p, hs⟩ := hG.rng
    refine (Tryz.strconv_Atoi_range_var a0 hb hv t p w hs).mono ?_
    rintro e w' ⟨n, rfl, _, _, hbel⟩
    exact ⟨_, ⟨_, _, rfl⟩, rfl, hbel⟩
end Go.Proofs.YtghfbhobpodoeaaGreatDoor.O
/- SpNum -/
namespace Go.Proofs.YtghfbhobpodoeaaGreatDoor.Sp
open Go Go.RowKit Go.Proofs.YtghfbhobpodoeaaGreatDoorW.PrintWords Go.Proofs.YtghfbhobpodoeaaGreatDoorW.PrintLast Go.Proofs.YtghfbhobpodoeaaGreatDoor.O Go.Proofs.YtghfbhobpodoeaaGreatDoor.P
set_option linter.unusedVariables false
set_option linter.unusedSimpArgs false
def digB (c : UInt8) : Bool := decide (48 ≤ c.toNat) && decide (c.toNat ≤ 57)
def numN : Nat → L → Nat
  | n, [] => n
  | n, c :: r => numN (n * 10 + (c.toNat - 48)) r
theorem numN_lt (a : L) : ∀ (n : Nat), (∀ c ∈ a, digB c = true) → numN n a < (n + 1) * 10 ^ a.length := by
  induction a with
  | nil => intro n _; rw [List.length_nil, Nat.pow_zero, Nat.mul_one]; exact Nat.lt_succ_self n
  | cons c r ih =>
    intro n h
    have hc := h c List.mem_cons_self
    unfold digB at hc
    simp only [Bool.and_eq_true, decide_eq_true_eq] at hc
    have := ih (n * 10 + (c.toNat - 48)) (fun x hx => h x (List.mem_cons_of_mem _ hx))
    show numN (n * 10 + (c.toNat - 48)) r < _
    refine Nat.lt_of_lt_of_le this ?_
    rw [List.length_cons, Nat.pow_succ, Nat.mul_comm (10 ^ r.length) 10, ← Nat.mul_assoc]
    generalize 10 ^ r.length = z
    exact Nat.mul_le_mul_right _ (by omega)
theorem pu_num (a : L) : ∀ (n : Nat), (∀ c ∈ a, digB c = true) → (n + 1) * 10 ^ a.length ≤ 10000000000 → Lib.parseUint10 n a = .ok (numN n a) := by
  induction a with
  | nil => intro n _ _; rfl
  | cons c r ih =>
    intro n h hb
    have hc := h c List.mem_cons_self
    unfold digB at hc
    simp only [Bool.and_eq_true, decide_eq_true_eq] at hc
    rw [List.length_cons, Nat.pow_succ, Nat.mul_comm (10 ^ r.length) 10, ← Nat.mul_assoc] at hb
    have h1 : 1 ≤ 10 ^ r.length := Nat.pow_pos (by omega)
    have hr := ih (n * 10 + (c.toNat - 48)) (fun x hx => h x (List.mem_cons_of_mem _ hx))
    generalize 10 ^ r.length = z at *
    have h2 : (n + 1) * 10 ≤ 10000000000 := Nat.le_trans (Nat.le_mul_of_pos_right _ h1) hb
    rw [Lib.parseUint10, if_pos hc, if_neg (by omega), if_neg (by omega)]
    exact hr (Nat.le_trans (Nat.mul_le_mul_right _ (by omega)) hb)
theorem dw_nil (p : UInt8 → Bool) (l : L) : l.dropWhile p = [] ↔ ∀ x ∈ l, p x = true := by
  induction l with
  | nil => simp
  | cons c r ih =>
    by_cases hc : p c = true
    · rw [List.dropWhile_cons_of_pos hc, ih]
      simp [hc]
    · rw [List.dropWhile_cons_of_neg hc]
      simp [hc]
theorem dw_head (p : UInt8 → Bool) (l : L) : ∀ c r, l.dropWhile p = c :: r → p c = false := by
  induction l with
  | nil => intro c r h; simp at h
  | cons d q ih =>
    intro c r h
    by_cases hd : p d = true
    · rw [List.dropWhile_cons_of_pos hd] at h
      exact ih c r h
    · rw [List.dropWhile_cons_of_neg hd] at h
      obtain ⟨rfl, _⟩ := List.cons.inj h
      simpa using hd
theorem atoi_num (a : L) (hne : a ≠ []) (h : ∀ c ∈ a, digB c = true) (hl : a.length ≤ 9) : atoiF a = ((numN 0 a : Int), none) := by
  obtain ⟨c, r, rfl⟩ := List.exists_cons_of_ne_nil hne
  have hc := h c List.mem_cons_self
  unfold digB at hc
  simp only [Bool.and_eq_true, decide_eq_true_eq] at hc
  have hp : (0 + 1) * 10 ^ (c :: r).length ≤ 10000000000 := by
    rw [Nat.zero_add, Nat.one_mul]
    exact Nat.le_trans (Nat.pow_le_pow_right (by omega) hl) (by decide)
  have hu := pu_num (c :: r) 0 h hp
  have hlt := numN_lt (c :: r) 0 h
  have e : Lib.atoiAll (c :: r) = .ok (numN 0 (c :: r) : Int) := by
    have hm : Lib.parseMag (c :: r) = .ok (numN 0 (c :: r)) := by unfold Lib.parseMag; rw [if_neg (by simp), hu]
    rw [Lib.atoiAll_plain c r (by omega) (by omega), hm, Lib.signless, if_neg (by omega)]
  simp [atoiF, e]
theorem dig_all : ∀ a : Fin 256, ([48, 49, 50, 51, 52, 53, 54, 55, 56, 57] : L).contains (UInt8.ofNat a.val) = digB (UInt8.ofNat a.val) := by decide +kernel
end Go.Proofs.YtghfbhobpodoeaaGreatDoor.Sp
