/- Texts of this seat, joined: lemmas and walks that its statements' proofs use. -/
import Derived.Test.YtmgabnodachboaaDoorProg
import Derived.Below
import Derived.Deep.Draws
import Derived.Deep.AppendLies
import Derived.Maps.AppendAt
import Derived.OwnWalk
import Derived.Laws.BytesArg
import Derived.Laws.MakeOwn
import Derived.Laws.OwnMore
import Derived.Deep.OwnRows
import Derived.Tactics
import Derived.Lib.ConvBytes
import Derived.Laws.Slices
import Derived.WalkKit
import Derived.KernelRfl
import Derived.RowKit3
import Derived.Deep.LoopGhost
import Derived.Deep.QuietTactic
import Derived.BigQuiet
import Derived.WideLaws
import Derived.Deep.DeepCutAuto
import Derived.Deep.CutBlock
import Derived.Deep.RegionHeld3
import Derived.Laws.Rows
import Derived.Lib.AppendStr
import Derived.ArgAppend
import Derived.Laws.IdiomCopy
import Derived.OrdersHeld
import Derived.Laws.BitsLemmas
import Derived.RowKit
import Derived.Test.YtmgabnodachboaaDoorK0
import Derived.Shelf.Strings.Builder1
import Derived.Shelf.Strings.Builder2
import Derived.Shelf.Strings.OnBuilder
import Derived.Shelf.Strings.BuilderF
import Derived.Shelf.Strings.BuilderK
import Derived.Shelf.Strconv.Atoi
import Derived.Shelf.Strconv.Itoa0
import Derived.Shelf.Strconv.Itoa1
import Derived.Shelf.LaysM
import Derived.Shelf.Strconv.Itoa2
import Derived.Shelf.Strconv.Itoa3
import Derived.Shelf.Strconv.AtoiErrFast
import Derived.Shelf.Strconv.ParseIntEmpty
import Derived.Shelf.Strconv.AtoiFail
import Derived.Shelf.Strconv.Clone
import Derived.Shelf.Strconv.SyntaxError
import Derived.Shelf.LaysC
import Derived.Shelf.Strconv.ToError
import Derived.Shelf.Strconv.Lower
import Derived.Shelf.Strconv.ParseUint10
import Derived.Shelf.Strconv.ParseUint10Empty
import Derived.Shelf.Strconv.ParseUint10Any
import Derived.Shelf.Strconv.ParseInt10
import Derived.Shelf.Strconv.AtoiLong
import Derived.Shelf.Strconv.AtoiInnerAll
import Derived.Shelf.Strconv.RangeError
import Derived.Shelf.Strconv.ToErrorRange
import Derived.Shelf.Strconv.AtoiAll
import Derived.Shelf.Strconv.ErrVarAll
import Derived.Shelf.Strings.Search1
import Derived.Shelf.Strings.Search2
import Derived.Shelf.Strings.Search3
import Derived.Shelf.Strings.Count
import Derived.Shelf.Strings.Shaped
import Derived.Shelf.GgClosure.StringsIndexFunc
import Derived.Ground.GgwProg
import Derived.Shelf.GgClosure.StringsIndexFuncTop
import Derived.Shelf.Strings.Prefix
import Derived.Shelf.Strings.Split
import Derived.Shelf.Strings.SplitShaped
import Derived.Shelf.Unicode.DecodeSlow
import Derived.Lib.Hide
import Derived.Lib.SmallJoins
/- Px0 -/
namespace Go.Proofs.YtmgabnodachboaaDoor.P
open Go.Proofs.YtmgabnodachboaaDoor.B
open Go.RowKit Go.Proofs.YtmgabnodachboaaDoorW.PrintWords Go.Proofs.YtmgabnodachboaaDoorW.PrintLast Go.Proofs.YtmgabnodachboaaDoorW.PrintMore
attribute [local go_sem] str_leq str_gtr str_geq max2_int min2_int max_two min_two max_three min_three max_four min_four   -- for this text's walks alone
set_option linter.unusedVariables false
set_option linter.unusedSimpArgs false



def errW : Option Int → Value
  | none => .nilIface
  | some c => .iface 0 (.int .i64 c)
theorem errW_none : errW none = .nilIface := rfl
theorem errW_some (c : Int) : errW (some c) = .iface 0 (.int .i64 c) := rfl

theorem info3 : (Tryd.prog.info? 3).map (fun i => (i.zero, i.size, i.bytes)) = some (some (.int .i64 0), 1, 8) := by kernel_rfl
theorem info5 : (Tryd.prog.info? 5).map (fun i => (i.zero, i.size, i.bytes)) = some (some (.int .u8 0), 1, 1) := by kernel_rfl
theorem info9 : (Tryd.prog.info? 9).map (fun i => (i.zero, i.size, i.bytes)) = some (some (.string ⟨#[]⟩), 1, 16) := by kernel_rfl
theorem info37 : (Tryd.prog.info? 37).map (fun i => (i.zero, i.size, i.bytes)) = some (some (.agg #[(.string ⟨#[]⟩), (.string ⟨#[]⟩), (.int .i64 0), (.int .i64 0)]), 4, 48) := by kernel_rfl
-- the values' own types
/-! #### struct type 37 -/
structure S37 where
  f0 : ByteArray
  f1 : ByteArray
  f2 : Int
  f3 : Int
def z37 : S37 := ⟨(⟨#[]⟩ : ByteArray), (⟨#[]⟩ : ByteArray), (0 : Int), (0 : Int)⟩
def k37 : Kd S37 := Kd.iso (Kd.pair Kd.string (Kd.pair Kd.string (Kd.pair (Kd.int .i64) (Kd.int .i64)))) (fun x : S37 => (x.f0, x.f1, x.f2, x.f3))
theorem k37_open {w : World} {x : S37} {cs : List Value} (h : k37.K w x cs) : cs = [.string x.f0, .string x.f1, .int .i64 x.f2, .int .i64 x.f3] := by
  obtain ⟨_, _, rfl, rfl, ⟨_, _, rfl, rfl, ⟨_, _, rfl, rfl, rfl⟩⟩⟩ := h
  exact rfl
theorem k37_openM {w : World} {base : Nat} {ok : Nat → Prop} {x : S37} {cs : List Value} (h : k37.M w base ok x cs) : cs = [.string x.f0, .string x.f1, .int .i64 x.f2, .int .i64 x.f3] := by
  obtain ⟨_, _, rfl, rfl, ⟨_, _, rfl, rfl, ⟨_, _, rfl, rfl, rfl⟩⟩⟩ := h
  exact rfl
theorem k37_mk (w : World) (x : S37)  : k37.K w x [.string x.f0, .string x.f1, .int .i64 x.f2, .int .i64 x.f3] := ⟨[.string x.f0], [.string x.f1, .int .i64 x.f2, .int .i64 x.f3], rfl, rfl, ⟨[.string x.f1], [.int .i64 x.f2, .int .i64 x.f3], rfl, rfl, ⟨[.int .i64 x.f2], [.int .i64 x.f3], rfl, rfl, rfl⟩⟩⟩
theorem k37_mkM (w : World) (base : Nat) (ok : Nat → Prop) (x : S37)  : k37.M w base ok x [.string x.f0, .string x.f1, .int .i64 x.f2, .int .i64 x.f3] := ⟨[.string x.f0], [.string x.f1, .int .i64 x.f2, .int .i64 x.f3], rfl, rfl, ⟨[.string x.f1], [.int .i64 x.f2, .int .i64 x.f3], rfl, rfl, ⟨[.int .i64 x.f2], [.int .i64 x.f3], rfl, rfl, rfl⟩⟩⟩
theorem k37_mkF (W : World) (ok : Nat → Prop) (x : S37) : Kd.FK k37 W ok x [.string x.f0, .string x.f1, .int .i64 x.f2, .int .i64 x.f3] := fun W2 _ => k37_mk W2 x
def rd_T37 (xs : List S37) (i : Int) : S37 := xs.getD i.toNat z37
theorem at_T37 {w : World} {A : Option Addr} {n : Nat} {xs : List S37} (h : Kd.C k37 w A n xs) (i : Int) (h0 : 0 ≤ i) (h1 : i < n) : ∃ ad , A = some ad ∧ w.cell? (ad.add (i.toNat * 4)) = some (.string (rd_T37 xs i).f0) ∧ w.cell? ⟨(ad.add (i.toNat * 4)).block, (ad.add (i.toNat * 4)).off + 1, none⟩ = some (.string (rd_T37 xs i).f1) ∧ w.cell? ⟨(ad.add (i.toNat * 4)).block, (ad.add (i.toNat * 4)).off + 2, none⟩ = some (.int .i64 (rd_T37 xs i).f2) ∧ w.cell? ⟨(ad.add (i.toNat * 4)).block, (ad.add (i.toNat * 4)).off + 3, none⟩ = some (.int .i64 (rd_T37 xs i).f3) := by
  obtain ⟨ad, c, e, _, hK, hc0⟩ := Kd.C_get h z37 i h0 h1
  have hc : ∀ j u, c[j]? = some u → w.cell? (ad.add (i.toNat * 4 + j)) = some u := hc0
  obtain rfl := k37_open hK
  exact ⟨ad, e, hc 0 _ rfl, by rw [← add_field _ _ 1 (by omega)]; exact hc 1 _ rfl, by rw [← add_field _ _ 2 (by omega)]; exact hc 2 _ rfl, by rw [← add_field _ _ 3 (by omega)]; exact hc 3 _ rfl⟩

/-- A strings.Builder at block g that holds f0. -/
def IsS41 (w0 W : World) (g : Nat) (f0 : ByteArray) : Prop := Bld 41 5 w0 W g f0
theorem IsS41.new {w0 W : World} {g : Nat} (hb : W.heap[g]? = some (.cells #[.pointer none, .slice none 0 0] 41 (0, 0))) (hg : w0.heap.size ≤ g) : IsS41 w0 W g ⟨#[]⟩ := .inl ⟨hg, .slice none 0 0, hb, ⟨by simp [Lib.byteCells], .inl ⟨rfl, by simp [Lib.byteCells]⟩⟩, by simp [Value.ownBlock]⟩
theorem IsS41.below {w0 W : World} {g : Nat} {f0 : ByteArray} {W1 : World} (h : IsS41 w0 W g f0) (hw : Below W.heap.size W W1) : IsS41 w0 W1 g f0 := Bld.below h hw
theorem IsS41.grown {w0 W : World} {g : Nat} {f0 : ByteArray} {W1 : World} {row : Option Nat} (h : IsS41 w0 W g f0) (hw : W.grownBy W1 row) (hne : ∀ k, row = some k → k ≠ g ∧ ∀ c fz, W.heap[k]? ≠ some (.cells c 5 fz)) : IsS41 w0 W1 g f0 := Bld.grown h hw hne
theorem IsS41.kept {w0 W : World} {g : Nat} {f0 : ByteArray} {W1 : World} {S : Nat → Prop} (h : IsS41 w0 W g f0) (hk : Kept W W1 S) (hne : ∀ k, S k → k ≠ g ∧ ∀ c fz, W.heap[k]? ≠ some (.cells c 5 fz)) : IsS41 w0 W1 g f0 := Bld.kept h hk.2 hne
theorem IsS41.fresh {w0 W : World} {g : Nat} {f0 : ByteArray} (h : IsS41 w0 W g f0) : ∀ k, W.heap.size ≤ k → k ≠ g := fun k hk e => by have := Bld.lt h; omega
theorem IsS41.alloc {w0 W : World} {g : Nat} {f0 : ByteArray} (h : IsS41 w0 W g f0) (o : Obj) : IsS41 w0 (W.alloc o) g f0 := Bld.below h (below_alloc (Below.refl _ _) o)
theorem IsS41.drewN {w0 W : World} {g : Nat} {f0 : ByteArray} (h : IsS41 w0 W g f0) (m : Nat) : IsS41 w0 (W.drewN m) g f0 := h
theorem IsS41.drew {w0 W : World} {g : Nat} {f0 : ByteArray} (h : IsS41 w0 W g f0) : IsS41 w0 W.drew g f0 := h
theorem IsS41.at_ {w0 W : World} {g : Nat} {f0 : ByteArray} {w' : World} {m : Nat} (hq : W.drewN m = w') (h : IsS41 w0 W g f0) : IsS41 w0 w' g f0 := by subst hq; exact IsS41.drewN h m
theorem IsS41.apart {w0 W : World} {g : Nat} {f0 : ByteArray} {α : Type} {d : Kd α} {e : Nat} {base : Nat} {ok : Nat → Prop} {v : Value} {xs : List α} (h : IsS41 w0 W g f0) (ho : d.R e W base ok v xs) (ht : ∀ q, q ∈ e :: d.E → q ≠ 41) : d.R e W base (fun k => ok k ∧ k ≠ g) v xs := by
  obtain ⟨_, hb⟩ := Bld.blk h
  exact Kd.R_types ho hb ht
theorem IsS41.own_ne {w0 W : World} {g : Nat} {f0 : ByteArray} {α : Type} {d : Kd α} {e : Nat} {base : Nat} {ok : Nat → Prop} {v : Value} {xs : List α} (h : IsS41 w0 W g f0) (ho : d.R e W base ok v xs) (ht : e ≠ 41) : some g ≠ v.ownBlock := by
  obtain ⟨_, hb⟩ := Bld.blk h
  exact Kd.R_ne ho hb ht
theorem IsS41.own_far {w0 W : World} {g : Nat} {f0 : ByteArray} {α : Type} {d : Kd α} {e : Nat} {base : Nat} {ok : Nat → Prop} {v : Value} {xs : List α} (h : IsS41 w0 W g f0) (ho : d.R e W base ok v xs) (ht : e ≠ 41 ∧ e ≠ 5) : ∀ k, v.ownBlock = some k → k ≠ g ∧ ∀ c fz, W.heap[k]? ≠ some (.cells c 5 fz) := by
  obtain ⟨inner, hi⟩ := Kd.R_own ho
  exact typed_far (Bld.blk h) hi ht.1 ht.2
theorem IsS41.apartQ {w0 W : World} {g : Nat} {f0 : ByteArray} {α : Type} {d : Kd α} {e : Nat} {base : Nat} {ok : Nat → Prop} {v : Value} {xs : List α} (h : IsS41 w0 W g f0) (ho : d.Q e W base ok v xs) (ht : ∀ q, q ∈ e :: d.E → q ≠ 41) : d.Q e W base (fun k => ok k ∧ k ≠ g) v xs := by
  obtain ⟨_, hb⟩ := Bld.blk h
  exact Kd.Q_types ho hb ht
theorem IsS41.own_neQ {w0 W : World} {g : Nat} {f0 : ByteArray} {α : Type} {d : Kd α} {e : Nat} {base : Nat} {ok : Nat → Prop} {v : Value} {xs : List α} (h : IsS41 w0 W g f0) (ho : d.Q e W base ok v xs) (ht : e ≠ 41) : some g ≠ v.ownBlock := by
  obtain ⟨_, hb⟩ := Bld.blk h
  exact Kd.Q_ne ho hb ht
theorem IsS41.apartS {w0 W : World} {g : Nat} {f0 : ByteArray} {α : Type} {d : Kd α} {e : Nat} {base : Nat} {ok : Nat → Prop} {v : Value} {xs : List α} (h : IsS41 w0 W g f0) (ho : Kd.S d e W base ok v xs) (ht : ∀ q, q ∈ e :: d.E → q ≠ 41) : Kd.S d e W base (fun k => ok k ∧ k ≠ g) v xs := by
  obtain ⟨_, hb⟩ := Bld.blk h
  exact Kd.S_types ho hb ht
theorem IsS41.own_neS {w0 W : World} {g : Nat} {f0 : ByteArray} {α : Type} {d : Kd α} {e : Nat} {base : Nat} {ok : Nat → Prop} {v : Value} {xs : List α} (h : IsS41 w0 W g f0) (ho : Kd.S d e W base ok v xs) (ht : e ≠ 41) : some g ≠ v.ownBlock := by
  obtain ⟨_, hb⟩ := Bld.blk h
  exact Kd.S_ne ho hb ht
theorem IsS41.own_farS {w0 W : World} {g : Nat} {f0 : ByteArray} {α : Type} {d : Kd α} {e : Nat} {base : Nat} {ok : Nat → Prop} {v : Value} {xs : List α} (h : IsS41 w0 W g f0) (ho : Kd.S d e W base ok v xs) (ht : e ≠ 41 ∧ e ≠ 5) : ∀ k, v.ownBlock = some k → k ≠ g ∧ ∀ c fz, W.heap[k]? ≠ some (.cells c 5 fz) := by
  obtain ⟨inner, hi⟩ := Kd.S_own ho
  exact typed_far (Bld.blk h) hi ht.1 ht.2
theorem IsS41.lt {w0 W : World} {g : Nat} {f0 : ByteArray} (h : IsS41 w0 W g f0) : g < W.heap.size := Bld.lt h
theorem IsS41.ge {w0 W : World} {g : Nat} {f0 : ByteArray} (h : IsS41 w0 W g f0) : w0.heap.size ≤ g := Bld.ge h
theorem IsS41.ne_blk {w0 W : World} {g : Nat} {f0 : ByteArray} {a : Nat} {cs : Array Value} {t : TypeId} {fr : Nat × Nat} (h : IsS41 w0 W g f0) (hb2 : W.heap[a]? = some (.cells cs t fr)) (ht : t ≠ 41) : g ≠ a := by
  obtain ⟨_, hb⟩ := Bld.blk h
  rintro rfl
  rw [hb] at hb2
  injection hb2 with hb2
  injection hb2 with _ ht2
  exact ht ht2.symm
theorem IsS41.farB {w0 W : World} {g : Nat} {f0 : ByteArray} {p : Addr} (h : IsS41 w0 W g f0) (hne : g ≠ p.block) {t : Nat} (ht : ∃ c fz, W.heap[p.block]? = some (.cells c t fz)) (hte : t ≠ 5) (u : Value) : IsS41 w0 (W.setCell p u) g f0 := Bld.farB h hne ht hte u

end Go.Proofs.YtmgabnodachboaaDoor.P

/- Px2 -/
namespace Go.Proofs.YtmgabnodachboaaDoor.P
open Go.Proofs.YtmgabnodachboaaDoor.B
open Go.RowKit Go.Proofs.YtmgabnodachboaaDoorW.PrintWords Go.Proofs.YtmgabnodachboaaDoorW.PrintLast Go.Proofs.YtmgabnodachboaaDoorW.PrintMore
attribute [local go_sem] str_leq str_gtr str_geq max2_int min2_int max_two min_two max_three min_three max_four min_four   -- for this text's walks alone
set_option linter.unusedVariables false
set_option linter.unusedSimpArgs false

/-! ### broadsheetlaw03_few: function 7 -/
mutual
def broadsheetlaw03_few.l0 : Nat → List (S37) → Int → Option (Bool)
  | 0, _, _ => none
  | k + 1, x0, x3 => if x3 < (x0.length : Int) then (broadsheetlaw03_few.j1 k x0 x3 (decide (x3 ≤ 100))) else (broadsheetlaw03_few.j1 k x0 x3 false)
def broadsheetlaw03_few.j1 : Nat → List (S37) → Int → Bool → Option (Bool)
  | 0, _, _, _ => none
  | k + 1, x0, x3, x11 => if x11 = true then (if 0 ≤ x3 then (if x3 < (x0.length : Int) then (if (((rd_T37 x0 x3).f0).size : Int) > 100 then (some false) else (if (((rd_T37 x0 x3).f1).size : Int) > 100 then (some false) else (broadsheetlaw03_few.l0 k x0 (wrap64 (x3 + 1))))) else (none)) else (none)) else (some (decide ((x0.length : Int) ≤ 100)))
end
def broadsheetlaw03_few.f (k : Nat) (l0 : List (S37)) : Option (Bool) := broadsheetlaw03_few.l0 k l0 0
theorem broadsheetlaw03_few.mono_l : ∀ k, (∀ y0 y1, LeO (broadsheetlaw03_few.l0 k y0 y1) (broadsheetlaw03_few.l0 (k + 1) y0 y1)) ∧ (∀ y0 y1 y2, LeO (broadsheetlaw03_few.j1 k y0 y1 y2) (broadsheetlaw03_few.j1 (k + 1) y0 y1 y2))
  | 0 => ⟨fun _ _ r h => by simp [broadsheetlaw03_few.l0] at h, fun _ _ _ r h => by simp [broadsheetlaw03_few.j1] at h⟩
  | k + 1 => by
    obtain ⟨ih0, ih1⟩ := broadsheetlaw03_few.mono_l k
    refine ⟨?_, ?_⟩
    · intro y0 y1
      unfold broadsheetlaw03_few.l0
      repeat' first
      | (with_reducible exact ih0 _ _)
      | (with_reducible exact ih1 _ _ _)
      | (with_reducible exact LeO.refl _)
      | (with_reducible exact LeO.none _)
      | (with_reducible refine LeO.ite ?_ ?_)
      | (with_reducible refine LeO.bind ?_ (fun _ => ?_))
      | exact ih0 _ _
      | exact ih1 _ _ _
      | exact LeO.none _
      | refine LeO.ite ?_ ?_
      | refine LeO.bind ?_ (fun _ => ?_)
    · intro y0 y1 y2
      unfold broadsheetlaw03_few.j1
      repeat' first
      | (with_reducible exact ih0 _ _)
      | (with_reducible exact ih1 _ _ _)
      | (with_reducible exact LeO.refl _)
      | (with_reducible exact LeO.none _)
      | (with_reducible refine LeO.ite ?_ ?_)
      | (with_reducible refine LeO.bind ?_ (fun _ => ?_))
      | exact ih0 _ _
      | exact ih1 _ _ _
      | exact LeO.none _
      | refine LeO.ite ?_ ?_
      | refine LeO.bind ?_ (fun _ => ?_)
theorem broadsheetlaw03_few.mono : ∀ a0 k, LeO (broadsheetlaw03_few.f k a0) (broadsheetlaw03_few.f (k + 1) a0) := by
  intro a0 k
  obtain ⟨ih0, ih1⟩ := broadsheetlaw03_few.mono_l k
  unfold broadsheetlaw03_few.f
  repeat' first
      | (with_reducible exact ih0 _ _)
      | (with_reducible exact ih1 _ _ _)
      | (with_reducible exact LeO.refl _)
      | (with_reducible exact LeO.none _)
      | (with_reducible refine LeO.ite ?_ ?_)
      | (with_reducible refine LeO.bind ?_ (fun _ => ?_))
      | exact ih0 _ _
      | exact ih1 _ _ _
      | exact LeO.none _
      | refine LeO.ite ?_ ?_
      | refine LeO.bind ?_ (fun _ => ?_)
set_option maxHeartbeats 8000000 in
set_option maxRecDepth 100000 in
theorem broadsheetlaw03_few.calls (k : Nat) (A0 : Option Addr) (c0 : Nat) (l0 : List (S37)) (r : Bool) (w : World) (hr0 : Kd.C k37 w A0 l0.length l0) (hc0 : l0.length ≤ c0) (h : broadsheetlaw03_few.f k l0 = some r) :
    Calls Tryd.prog 7 #[.slice A0 l0.length c0] w fun e w' => e = .returned (.bool r) ∧ Drawn0 w w' := by
  have HR0 := Aside0.mk hr0
  have HC0 := Aside0.mk hc0
  clear hr0 hc0
  have H : (broadsheetlaw03_few.l0 k l0 0) = some r := h
  clear h
  have H' := Aside0.mk H
  clear H
  go_enter Tryd.func7, Tryd.ntmps7
  go_wp2
  go_loopg [3] k (fun kq v3 w' => ∃ (x3_1 : Int), v3 = .int .i64 x3_1 ∧ Aside0 (broadsheetlaw03_few.l0 kq l0 x3_1 = some r) ∧ Aside0 (kq ≤ k) ∧ Drawn0 w w')
  case atStart => exact ⟨(0), (by first | rfl | (simp; done) | (simp [*]; done)), H', ⟨Nat.le_refl _⟩, by repeat (first | exact Drawn0.refl _ | apply Drawn0.step)⟩
  case round =>
    clear H'
    obtain ⟨x3_1, rfl, HA, HK1, ⟨m1, rfl⟩⟩ := hrel
    cases gk with
    | zero => exact absurd HA.out (by simp [broadsheetlaw03_few.l0])
    | succ k1 =>
      have H := HA.out
      clear HA
      simp only [broadsheetlaw03_few.l0] at H
      have HC2 := Aside0.mk H
      clear H
      go_upto_region 2 with (fail)
      go_cut [11] (fun v11 wc => ∃ (kq : Nat) (x11_1 : Bool), v11 = .bool x11_1 ∧ Aside0 (broadsheetlaw03_few.j1 kq l0 x3_1 x11_1 = some r) ∧ Aside0 (kq ≤ k1) ∧ Drawn0 w wc)
      case first =>
        have H := HC2.out
        clear HC2
        by_cases c3 : x3_1 < (l0.length : Int)
        · rw [if_pos c3] at H
          have c3b0 : decide (x3_1 < (l0.length : Int)) = true := decide_eq_true c3
          clear c3
          (first | rw [c3b0] | (simp only [i64_w, i32_w]; rw [c3b0]) | skip)
          have H' := Aside0.mk H
          clear H
          go_wp2
          go_meet
          case rel => exact ⟨_, (decide (x3_1 ≤ 100)), (by first | rfl | (simp; done) | (simp [*]; done)), H', ⟨by have := HK1.out; first | omega | exact Nat.le_refl _⟩, by repeat (first | exact Drawn0.refl _ | apply Drawn0.step)⟩
        · rw [if_neg c3] at H
          have c3b0 : decide (x3_1 < (l0.length : Int)) = false := decide_eq_false c3
          clear c3
          (first | rw [c3b0] | (simp only [i64_w, i32_w]; rw [c3b0]) | skip)
          have H' := Aside0.mk H
          clear H
          go_wp2
          go_meet
          case rel => exact ⟨_, (false), (by first | rfl | (simp; done) | (simp [*]; done)), H', ⟨by have := HK1.out; first | omega | exact Nat.le_refl _⟩, by repeat (first | exact Drawn0.refl _ | apply Drawn0.step)⟩
      case rest =>
        clear HC2
        try clear p2
        try clear c3
        try clear c3b0
        obtain ⟨kq, x11_1, rfl, HA, HJ1, ⟨mc1, rfl⟩⟩ := hcut
        cases kq with
        | zero => exact absurd HA.out (by simp [broadsheetlaw03_few.j1])
        | succ kj1 =>
          have H := HA.out
          clear HA
          simp only [broadsheetlaw03_few.j1] at H
          by_cases c4 : x11_1 = true
          · subst c4
            have H1 : (if 0 ≤ x3_1 then (if x3_1 < (l0.length : Int) then (if (((rd_T37 l0 x3_1).f0).size : Int) > 100 then (some false) else (if (((rd_T37 l0 x3_1).f1).size : Int) > 100 then (some false) else (broadsheetlaw03_few.l0 kj1 l0 (wrap64 (x3_1 + 1))))) else (none)) else (none)) = some r := by rw [if_pos rfl] at H; exact H
            clear H
            have H := H1
            clear H1
            by_cases c5 : 0 ≤ x3_1
            · rw [if_pos c5] at H
              have c5b0 : decide (0 ≤ x3_1) = true := decide_eq_true c5
              clear c5
              by_cases c6 : x3_1 < (l0.length : Int)
              · rw [if_pos c6] at H
                have c6b0 : decide (x3_1 < (l0.length : Int)) = true := decide_eq_true c6
                clear c6
                by_cases c7 : (((rd_T37 l0 x3_1).f0).size : Int) > 100
                · rw [if_pos c7] at H
                  have c7b0 : decide (100 < (((rd_T37 l0 x3_1).f0).size : Int)) = true := decide_eq_true c7
                  have c7b1 : decide (100 < ((rd_T37 l0 x3_1).f0).size) = true := decide_eq_true (by omega)
                  clear c7
                  obtain rfl := Option.some.inj H
                  have p101 : 0 ≤ (x3_1 : Int) := of_decide_eq_true (by first | (with_reducible assumption) | assumption)
                  have q101 : x3_1 < (l0.length : Int) := of_decide_eq_true (by first | (with_reducible assumption) | assumption)
                  obtain ⟨ad101, e101, hx101_0, hx101_1, hx101_2, hx101_3⟩ := at_T37 HR0.out x3_1 p101 q101
                  cases e101
                  replace p101 := eq_true p101
                  replace q101 := eq_true q101
                  go_wp2
                  go_ret
                  exact ⟨by first | rfl | (simp; done) | (simp [*]; done), by repeat (first | exact Drawn0.refl _ | apply Drawn0.step)⟩
                · rw [if_neg c7] at H
                  have c7b0 : decide (100 < (((rd_T37 l0 x3_1).f0).size : Int)) = false := decide_eq_false c7
                  have c7b1 : decide (100 < ((rd_T37 l0 x3_1).f0).size) = false := decide_eq_false (by omega)
                  clear c7
                  by_cases c8 : (((rd_T37 l0 x3_1).f1).size : Int) > 100
                  · rw [if_pos c8] at H
                    have c8b0 : decide (100 < (((rd_T37 l0 x3_1).f1).size : Int)) = true := decide_eq_true c8
                    have c8b1 : decide (100 < ((rd_T37 l0 x3_1).f1).size) = true := decide_eq_true (by omega)
                    clear c8
                    obtain rfl := Option.some.inj H
                    have p101 : 0 ≤ (x3_1 : Int) := of_decide_eq_true (by first | (with_reducible assumption) | assumption)
                    have q101 : x3_1 < (l0.length : Int) := of_decide_eq_true (by first | (with_reducible assumption) | assumption)
                    obtain ⟨ad101, e101, hx101_0, hx101_1, hx101_2, hx101_3⟩ := at_T37 HR0.out x3_1 p101 q101
                    cases e101
                    replace p101 := eq_true p101
                    replace q101 := eq_true q101
                    have p102 : 0 ≤ (x3_1 : Int) := of_decide_eq_true (by first | (with_reducible assumption) | assumption)
                    have q102 : x3_1 < (l0.length : Int) := of_decide_eq_true (by first | (with_reducible assumption) | assumption)
                    obtain ⟨ad102, e102, hx102_0, hx102_1, hx102_2, hx102_3⟩ := at_T37 HR0.out x3_1 p102 q102
                    obtain rfl : ad101 = ad102 := (by injection e102)
                    replace p102 := eq_true p102
                    replace q102 := eq_true q102
                    go_wp2
                    go_ret
                    exact ⟨by first | rfl | (simp; done) | (simp [*]; done), by repeat (first | exact Drawn0.refl _ | apply Drawn0.step)⟩
                  · rw [if_neg c8] at H
                    have c8b0 : decide (100 < (((rd_T37 l0 x3_1).f1).size : Int)) = false := decide_eq_false c8
                    have c8b1 : decide (100 < ((rd_T37 l0 x3_1).f1).size) = false := decide_eq_false (by omega)
                    clear c8
                    have H' := Aside0.mk H
                    clear H
                    have p101 : 0 ≤ (x3_1 : Int) := of_decide_eq_true (by first | (with_reducible assumption) | assumption)
                    have q101 : x3_1 < (l0.length : Int) := of_decide_eq_true (by first | (with_reducible assumption) | assumption)
                    obtain ⟨ad101, e101, hx101_0, hx101_1, hx101_2, hx101_3⟩ := at_T37 HR0.out x3_1 p101 q101
                    cases e101
                    replace p101 := eq_true p101
                    replace q101 := eq_true q101
                    have p102 : 0 ≤ (x3_1 : Int) := of_decide_eq_true (by first | (with_reducible assumption) | assumption)
                    have q102 : x3_1 < (l0.length : Int) := of_decide_eq_true (by first | (with_reducible assumption) | assumption)
                    obtain ⟨ad102, e102, hx102_0, hx102_1, hx102_2, hx102_3⟩ := at_T37 HR0.out x3_1 p102 q102
                    obtain rfl : ad101 = ad102 := (by injection e102)
                    replace p102 := eq_true p102
                    replace q102 := eq_true q102
                    go_wp2
                    go_roundg kj1
                    case measure => have := HK1.out; have := HJ1.out; omega
                    case rel => exact ⟨(wrap64 (x3_1 + 1)), (by first | rfl | (simp; done) | (simp [*]; done)), H', ⟨by have := HK1.out; have := HJ1.out; omega⟩, by repeat (first | exact Drawn0.refl _ | apply Drawn0.step)⟩
              · rw [if_neg c6] at H
                exact absurd H (by simp)
            · rw [if_neg c5] at H
              exact absurd H (by simp)
          · replace c4 := Bool.eq_false_iff.mpr c4
            subst c4
            have H1 : (some (decide ((l0.length : Int) ≤ 100))) = some r := by rw [if_neg (show ¬ (false = true) by decide)] at H; exact H
            clear H
            have H := H1
            clear H1
            obtain rfl := Option.some.inj H
            go_wp2
            go_ret
            exact ⟨by first | rfl | (simp; done) | (simp [*]; done), by repeat (first | exact Drawn0.refl _ | apply Drawn0.step)⟩

end Go.Proofs.YtmgabnodachboaaDoor.P

/- Px3 -/
namespace Go.Proofs.YtmgabnodachboaaDoor.P
open Go.Proofs.YtmgabnodachboaaDoor.B
open Go.RowKit Go.Proofs.YtmgabnodachboaaDoorW.PrintWords Go.Proofs.YtmgabnodachboaaDoorW.PrintLast Go.Proofs.YtmgabnodachboaaDoorW.PrintMore
attribute [local go_sem] str_leq str_gtr str_geq max2_int min2_int max_two min_two max_three min_three max_four min_four   -- for this text's walks alone
set_option linter.unusedVariables false
set_option linter.unusedSimpArgs false

/-! ### manifest_near: function 14 -/
def manifest_near.l0 : Nat → List Int → Int → Int → Option (Bool)
  | 0, _, _, _ => none
  | k + 1, x5, x6, x7 => if x7 < x6 then (if 0 ≤ x7 then (if x7 < (x5.length : Int) then (if (rd x5 x7) < 0 then (some false) else (if (rd x5 x7) > 1099511627776 then (some false) else (manifest_near.l0 k x5 x6 (wrap64 (x7 + 1))))) else (none)) else (none)) else (some true)
def manifest_near.f (k : Nat) (l0 : List Int) : Option (Bool) := manifest_near.l0 k l0 (l0.length : Int) 0
theorem manifest_near.mono_l : ∀ k, (∀ y0 y1 y2, LeO (manifest_near.l0 k y0 y1 y2) (manifest_near.l0 (k + 1) y0 y1 y2))
  | 0 => fun _ _ _ r h => by simp [manifest_near.l0] at h
  | k + 1 => by
    have ih0 := manifest_near.mono_l k
    · intro y0 y1 y2
      unfold manifest_near.l0
      repeat' first
      | (with_reducible exact ih0 _ _ _)
      | (with_reducible exact LeO.refl _)
      | (with_reducible exact LeO.none _)
      | (with_reducible refine LeO.ite ?_ ?_)
      | (with_reducible refine LeO.bind ?_ (fun _ => ?_))
      | exact ih0 _ _ _
      | exact LeO.none _
      | refine LeO.ite ?_ ?_
      | refine LeO.bind ?_ (fun _ => ?_)
theorem manifest_near.mono : ∀ a0 k, LeO (manifest_near.f k a0) (manifest_near.f (k + 1) a0) := by
  intro a0 k
  have ih0 := manifest_near.mono_l k
  unfold manifest_near.f
  repeat' first
      | (with_reducible exact ih0 _ _ _)
      | (with_reducible exact LeO.refl _)
      | (with_reducible exact LeO.none _)
      | (with_reducible refine LeO.ite ?_ ?_)
      | (with_reducible refine LeO.bind ?_ (fun _ => ?_))
      | exact ih0 _ _ _
      | exact LeO.none _
      | refine LeO.ite ?_ ?_
      | refine LeO.bind ?_ (fun _ => ?_)
set_option maxHeartbeats 8000000 in
set_option maxRecDepth 100000 in
theorem manifest_near.calls (k : Nat) (A0 : Option Addr) (c0 : Nat) (l0 : List Int) (r : Bool) (w : World) (hr0 : Kd.C (Kd.int .i64) w A0 l0.length l0) (hc0 : l0.length ≤ c0) (h : manifest_near.f k l0 = some r) :
    Calls Tryd.prog 14 #[.slice A0 l0.length c0] w fun e w' => e = .returned (.bool r) ∧ Drawn0 w w' := by
  have HR0 := Aside0.mk hr0
  have HC0 := Aside0.mk hc0
  clear hr0 hc0
  have H : (manifest_near.l0 k l0 (l0.length : Int) 0) = some r := h
  clear h
  have H' := Aside0.mk H
  clear H
  go_enter Tryd.func14, Tryd.ntmps14
  go_wp2
  go_loopg [7] k (fun kq v7 w' => ∃ (x7_1 : Int), v7 = .int .i64 x7_1 ∧ Aside0 (manifest_near.l0 kq l0 (l0.length : Int) x7_1 = some r) ∧ Aside0 (kq ≤ k) ∧ Drawn0 w w')
  case atStart => exact ⟨(0), (by first | rfl | (simp; done) | (simp [*]; done)), H', ⟨Nat.le_refl _⟩, by repeat (first | exact Drawn0.refl _ | apply Drawn0.step)⟩
  case round =>
    clear H'
    try clear c1
    obtain ⟨x7_1, rfl, HA, HK1, ⟨m1, rfl⟩⟩ := hrel
    cases gk with
    | zero => exact absurd HA.out (by simp [manifest_near.l0])
    | succ k1 =>
      have H := HA.out
      clear HA
      simp only [manifest_near.l0] at H
      by_cases c2 : x7_1 < (l0.length : Int)
      · rw [if_pos c2] at H
        have c2b0 : decide (x7_1 < (l0.length : Int)) = true := decide_eq_true c2
        clear c2
        by_cases c3 : 0 ≤ x7_1
        · rw [if_pos c3] at H
          have c3b0 : decide (0 ≤ x7_1) = true := decide_eq_true c3
          clear c3
          by_cases c4 : x7_1 < (l0.length : Int)
          · rw [if_pos c4] at H
            have c4b0 : decide (x7_1 < (l0.length : Int)) = true := decide_eq_true c4
            clear c4
            by_cases c5 : (rd l0 x7_1) < 0
            · rw [if_pos c5] at H
              have c5b0 : decide ((rd l0 x7_1) < 0) = true := decide_eq_true c5
              clear c5
              obtain rfl := Option.some.inj H
              have p103 : 0 ≤ (x7_1 : Int) := of_decide_eq_true (by first | (with_reducible assumption) | assumption)
              have q103 : x7_1 < (l0.length : Int) := of_decide_eq_true (by first | (with_reducible assumption) | assumption)
              obtain ⟨ad103, e103, hx103_0⟩ := Kd.at_int HR0.out x7_1 p103 q103
              cases e103
              replace p103 := eq_true p103
              replace q103 := eq_true q103
              go_wp2
              go_ret
              exact ⟨by first | rfl | (simp; done) | (simp [*]; done), by repeat (first | exact Drawn0.refl _ | apply Drawn0.step)⟩
            · rw [if_neg c5] at H
              have c5b0 : decide ((rd l0 x7_1) < 0) = false := decide_eq_false c5
              clear c5
              by_cases c6 : (rd l0 x7_1) > 1099511627776
              · rw [if_pos c6] at H
                have c6b0 : decide (1099511627776 < (rd l0 x7_1)) = true := decide_eq_true c6
                clear c6
                obtain rfl := Option.some.inj H
                have p103 : 0 ≤ (x7_1 : Int) := of_decide_eq_true (by first | (with_reducible assumption) | assumption)
                have q103 : x7_1 < (l0.length : Int) := of_decide_eq_true (by first | (with_reducible assumption) | assumption)
                obtain ⟨ad103, e103, hx103_0⟩ := Kd.at_int HR0.out x7_1 p103 q103
                cases e103
                replace p103 := eq_true p103
                replace q103 := eq_true q103
                go_wp2
                go_ret
                exact ⟨by first | rfl | (simp; done) | (simp [*]; done), by repeat (first | exact Drawn0.refl _ | apply Drawn0.step)⟩
              · rw [if_neg c6] at H
                have c6b0 : decide (1099511627776 < (rd l0 x7_1)) = false := decide_eq_false c6
                clear c6
                have H' := Aside0.mk H
                clear H
                have p103 : 0 ≤ (x7_1 : Int) := of_decide_eq_true (by first | (with_reducible assumption) | assumption)
                have q103 : x7_1 < (l0.length : Int) := of_decide_eq_true (by first | (with_reducible assumption) | assumption)
                obtain ⟨ad103, e103, hx103_0⟩ := Kd.at_int HR0.out x7_1 p103 q103
                cases e103
                replace p103 := eq_true p103
                replace q103 := eq_true q103
                go_wp2
                go_roundg k1
                case measure => have := HK1.out; omega
                case rel => exact ⟨(wrap64 (x7_1 + 1)), (by first | rfl | (simp; done) | (simp [*]; done)), H', ⟨by have := HK1.out; omega⟩, by repeat (first | exact Drawn0.refl _ | apply Drawn0.step)⟩
          · rw [if_neg c4] at H
            exact absurd H (by simp)
        · rw [if_neg c3] at H
          exact absurd H (by simp)
      · rw [if_neg c2] at H
        have c2b0 : decide (x7_1 < (l0.length : Int)) = false := decide_eq_false c2
        clear c2
        obtain rfl := Option.some.inj H
        go_wp2
        go_ret
        exact ⟨by first | rfl | (simp; done) | (simp [*]; done), by repeat (first | exact Drawn0.refl _ | apply Drawn0.step)⟩

end Go.Proofs.YtmgabnodachboaaDoor.P

/- Shelf -/
namespace Go.Proofs
open Go.Shelf
def Tryd.lays169_ren : Go.Shelf.Ren := ⟨fun | 169 => 18 | n => n, fun | 70 => 39 | 9 => 9 | 0 => 0 | 72 => 41 | 37 => 34 | 127 => 61 | 3 => 3 | 5 => 5 | n => n, fun | n => n⟩
theorem Tryd.lays169 : Go.Proofs.Lays.n169 Tryd.prog Tryd.lays169_ren := {
  mixed := by kernel_rfl
  f169 := Tryd.func18.trans (congrArg some (by kernel_rfl))
  t0 := Tryd.underlying0
  a0 := Tryd.isAgg0
  z0 := Tryd.sizeOf0
  v0 := Tryd.zeroValue0
  t3 := Tryd.underlying3
  a3 := Tryd.isAgg3
  z3 := Tryd.sizeOf3
  v3 := Tryd.zeroValue3
  t9 := Tryd.underlying9
  a9 := Tryd.isAgg9
  z9 := Tryd.sizeOf9
  v9 := Tryd.zeroValue9
  t37 := Tryd.underlying34
  a37 := Tryd.isAgg34
  z37 := Tryd.sizeOf34
  v37 := Tryd.zeroValue34
  t70 := Tryd.underlying39
  a70 := Tryd.isAgg39
  z70 := Tryd.sizeOf39
  v70 := Tryd.zeroValue39
  t72 := Tryd.underlying41
  a72 := Tryd.isAgg41
  z72 := Tryd.sizeOf41
  v72 := Tryd.zeroValue41
  t127 := Tryd.underlying61
  a127 := Tryd.isAgg61
  z127 := Tryd.sizeOf61
  v127 := Tryd.zeroValue61 }
theorem Tryd.Builder_Extra_169 : Builder.Extra Tryd.prog Tryd.lays169_ren := {
  sizeBuilder := by kernel_rfl
  liesBuilder := by kernel_rfl
  t5 := Tryd.underlying5
  a5 := Tryd.isAgg5
  z5 := Tryd.sizeOf5
  v5 := Tryd.zeroValue5
  infoByte := by kernel_rfl
  cellsByte := by kernel_rfl
  sizeByte := by kernel_rfl
  neB5 := by decide }
def Tryd.lays156_ren : Go.Shelf.Ren := ⟨fun | 156 => 32 | 165 => 42 | 166 => 15 | 169 => 18 | 240 => 30 | 241 => 54 | 276 => 40 | 277 => 67 | n => n, fun | 31 => 47 | 9 => 9 | 3 => 3 | 4 => 4 | 0 => 0 | 20 => 20 | 72 => 41 | 76 => 44 | 70 => 39 | 37 => 34 | 75 => 43 | 127 => 61 | 164 => 66 | 5 => 5 | 80 => 48 | n => n, fun | n => n⟩
theorem Tryd.lays156 : Go.Proofs.Lays.n156 Tryd.prog Tryd.lays156_ren := {
  mixed := by kernel_rfl
  f156 := Tryd.func32.trans (congrArg some (by kernel_rfl))
  f165 := Tryd.func42.trans (congrArg some (by kernel_rfl))
  f166 := Tryd.func15.trans (congrArg some (by kernel_rfl))
  f169 := Tryd.func18.trans (congrArg some (by kernel_rfl))
  f240 := Tryd.func30.trans (congrArg some (by kernel_rfl))
  f241 := Tryd.func54.trans (congrArg some (by kernel_rfl))
  f276 := Tryd.func40.trans (congrArg some (by kernel_rfl))
  f277 := Tryd.func67.trans (congrArg some (by kernel_rfl))
  t0 := Tryd.underlying0
  a0 := Tryd.isAgg0
  z0 := Tryd.sizeOf0
  v0 := Tryd.zeroValue0
  t3 := Tryd.underlying3
  a3 := Tryd.isAgg3
  z3 := Tryd.sizeOf3
  v3 := Tryd.zeroValue3
  t4 := Tryd.underlying4
  a4 := Tryd.isAgg4
  z4 := Tryd.sizeOf4
  v4 := Tryd.zeroValue4
  t9 := Tryd.underlying9
  a9 := Tryd.isAgg9
  z9 := Tryd.sizeOf9
  v9 := Tryd.zeroValue9
  t20 := Tryd.underlying20
  a20 := Tryd.isAgg20
  z20 := Tryd.sizeOf20
  v20 := Tryd.zeroValue20
  t31 := Tryd.underlying47
  a31 := Tryd.isAgg47
  z31 := Tryd.sizeOf47
  v31 := Tryd.zeroValue47
  t37 := Tryd.underlying34
  a37 := Tryd.isAgg34
  z37 := Tryd.sizeOf34
  v37 := Tryd.zeroValue34
  t70 := Tryd.underlying39
  a70 := Tryd.isAgg39
  z70 := Tryd.sizeOf39
  v70 := Tryd.zeroValue39
  t72 := Tryd.underlying41
  a72 := Tryd.isAgg41
  z72 := Tryd.sizeOf41
  v72 := Tryd.zeroValue41
  t75 := Tryd.underlying43
  a75 := Tryd.isAgg43
  z75 := Tryd.sizeOf43
  v75 := Tryd.zeroValue43
  t76 := Tryd.underlying44
  a76 := Tryd.isAgg44
  z76 := Tryd.sizeOf44
  v76 := Tryd.zeroValue44
  t127 := Tryd.underlying61
  a127 := Tryd.isAgg61
  z127 := Tryd.sizeOf61
  v127 := Tryd.zeroValue61
  t164 := Tryd.underlying66
  a164 := Tryd.isAgg66
  z164 := Tryd.sizeOf66
  v164 := Tryd.zeroValue66 }
theorem Tryd.Builder_Extra_156 : Builder.Extra Tryd.prog Tryd.lays156_ren := {
  sizeBuilder := by kernel_rfl
  liesBuilder := by kernel_rfl
  t5 := Tryd.underlying5
  a5 := Tryd.isAgg5
  z5 := Tryd.sizeOf5
  v5 := Tryd.zeroValue5
  infoByte := by kernel_rfl
  cellsByte := by kernel_rfl
  sizeByte := by kernel_rfl
  neB5 := by decide }
open Go.RowKit in
theorem Tryd.strings_Join_none (a : Option Addr) (c : Nat) (sep : ByteArray) (w : World) :
    Calls Tryd.prog 32 #[.slice a 0 c, .string sep] w fun e w' => e = .returned (.string ⟨#[]⟩) ∧ w' = w := Any.strings_Join_none Tryd.lays156 Tryd.Builder_Extra_156 a c sep w
open Go.RowKit in
theorem Tryd.strings_Join (bk o c : Nat) (xs : List ByteArray) (sep : ByteArray) (w : World) (hcells : ∀ (j : Nat) x, xs[j]? = some x → w.cell? ⟨bk, o + j, none⟩ = some (.string x)) (hbk : bk < w.heap.size) (hN : xs.length ≤ 140737488355328) (hcap : xs.length ≤ c) (hlen : (Lib.join (xs.map (·.data.toList)) sep.data.toList).length ≤ 140737488355328) :
    Calls Tryd.prog 32 #[.slice (some ⟨bk, o, none⟩) xs.length c, .string sep] w fun e w' => e = .returned (.string ⟨(Lib.join (xs.map (·.data.toList)) sep.data.toList).toArray⟩) ∧ Below w.heap.size w w' := Any.strings_Join Tryd.lays156 Tryd.Builder_Extra_156 bk o c xs sep w hcells hbk hN hcap hlen
open Go.RowKit in
theorem Tryd.Builder_String_any_k (B b : Nat) (l : List UInt8) (w : World) (h : Lib.IsBuilderF 41 5 B b (Lib.byteCells l) w) (hBw : B ≤ w.heap.size) :
    Calls Tryd.prog 18 #[.pointer (some ⟨b, 0, none⟩)] w fun e w' => e = .returned (.string ⟨l.toArray⟩) ∧ (Lib.IsBuilderF 41 5 B b (Lib.byteCells l) w' ∧ Below B w w' ∧ Lib.OthersKept 5 (some b) w w') := Any.Builder_String_any_k Tryd.lays169 Tryd.Builder_Extra_169 B b l w h hBw
def Tryd.laysM171_ren : Go.Shelf.Ren := ⟨fun | 171 => 31 | 243 => 41 | 246 => 53 | 283 => 63 | 284 => 64 | 285 => 65 | 286 => 66 | 129 => 76 | 317 => 75 | 318 => 77 | 319 => 78 | 320 => 79 | 337 => 82 | 338 => 83 | n => n, fun | 3 => 3 | 9 => 9 | 2 => 2 | 4 => 4 | 171 => 91 | 0 => 0 | 53 => 84 | 37 => 34 | 5 => 5 | 173 => 94 | 212 => 103 | 51 => 62 | 20 => 20 | 213 => 104 | 46 => 63 | 232 => 114 | 233 => 115 | n => n, fun | 17 => 3 | 18 => 6 | 19 => 7 | n => n⟩
theorem Tryd.laysM171 : Go.Proofs.LaysM.n171 Tryd.prog Tryd.laysM171_ren := {
  mixed := by kernel_rfl
  f129 := Tryd.func76.trans (congrArg some (by kernel_rfl))
  f171 := Tryd.func31.trans (congrArg some (by kernel_rfl))
  f243 := Tryd.func41.trans (congrArg some (by kernel_rfl))
  f246 := Tryd.func53.trans (congrArg some (by kernel_rfl))
  f283 := Tryd.func63.trans (congrArg some (by kernel_rfl))
  f284 := Tryd.func64.trans (congrArg some (by kernel_rfl))
  f285 := Tryd.func65.trans (congrArg some (by kernel_rfl))
  f286 := Tryd.func66.trans (congrArg some (by kernel_rfl))
  f317 := Tryd.func75.trans (congrArg some (by kernel_rfl))
  f318 := Tryd.func77.trans (congrArg some (by kernel_rfl))
  f319 := Tryd.func78.trans (congrArg some (by kernel_rfl))
  f320 := Tryd.func79.trans (congrArg some (by kernel_rfl))
  f337 := Tryd.func82.trans (congrArg some (by kernel_rfl))
  f338 := Tryd.func83.trans (congrArg some (by kernel_rfl))
  t0 := Tryd.underlying0
  a0 := Tryd.isAgg0
  z0 := Tryd.sizeOf0
  v0 := Tryd.zeroValue0
  t2 := Tryd.underlying2
  a2 := Tryd.isAgg2
  z2 := Tryd.sizeOf2
  v2 := Tryd.zeroValue2
  t3 := Tryd.underlying3
  a3 := Tryd.isAgg3
  z3 := Tryd.sizeOf3
  v3 := Tryd.zeroValue3
  t4 := Tryd.underlying4
  a4 := Tryd.isAgg4
  z4 := Tryd.sizeOf4
  v4 := Tryd.zeroValue4
  t5 := Tryd.underlying5
  a5 := Tryd.isAgg5
  z5 := Tryd.sizeOf5
  v5 := Tryd.zeroValue5
  t9 := Tryd.underlying9
  a9 := Tryd.isAgg9
  z9 := Tryd.sizeOf9
  v9 := Tryd.zeroValue9
  t20 := Tryd.underlying20
  a20 := Tryd.isAgg20
  z20 := Tryd.sizeOf20
  v20 := Tryd.zeroValue20
  t37 := Tryd.underlying34
  a37 := Tryd.isAgg34
  z37 := Tryd.sizeOf34
  v37 := Tryd.zeroValue34
  t46 := Tryd.underlying63
  a46 := Tryd.isAgg63
  z46 := Tryd.sizeOf63
  v46 := Tryd.zeroValue63
  t51 := Tryd.underlying62
  a51 := Tryd.isAgg62
  z51 := Tryd.sizeOf62
  v51 := Tryd.zeroValue62
  t53 := Tryd.underlying84
  a53 := Tryd.isAgg84
  z53 := Tryd.sizeOf84
  v53 := Tryd.zeroValue84
  t171 := Tryd.underlying91
  a171 := Tryd.isAgg91
  z171 := Tryd.sizeOf91
  v171 := Tryd.zeroValue91
  t173 := Tryd.underlying94
  a173 := Tryd.isAgg94
  z173 := Tryd.sizeOf94
  v173 := Tryd.zeroValue94
  t212 := Tryd.underlying103
  a212 := Tryd.isAgg103
  z212 := Tryd.sizeOf103
  v212 := Tryd.zeroValue103
  t213 := Tryd.underlying104
  a213 := Tryd.isAgg104
  z213 := Tryd.sizeOf104
  t232 := Tryd.underlying114
  a232 := Tryd.isAgg114
  z232 := Tryd.sizeOf114
  v232 := Tryd.zeroValue114
  t233 := Tryd.underlying115
  a233 := Tryd.isAgg115
  z233 := Tryd.sizeOf115
  v233 := Tryd.zeroValue115
  g17 := by kernel_rfl
  g18 := by kernel_rfl
  g19 := by kernel_rfl
  i0 := by kernel_rfl
  i2 := by kernel_rfl
  i3 := by kernel_rfl
  i4 := by kernel_rfl
  i5 := by kernel_rfl
  i9 := by kernel_rfl
  i20 := by kernel_rfl
  i37 := by kernel_rfl
  i46 := by kernel_rfl
  i51 := by kernel_rfl
  i53 := by kernel_rfl
  i171 := by kernel_rfl
  i173 := by kernel_rfl
  i212 := by kernel_rfl
  i232 := by kernel_rfl
  i233 := by kernel_rfl
  m17 := by kernel_rfl
  m18 := by kernel_rfl
  m19 := by kernel_rfl }
open Go.RowKit Go.Sort Go.Lib in
theorem Tryd.strconv_Itoa (n : Int) (h0 : -9223372036854775808 ≤ n) (h1 : n ≤ 9223372036854775807) (w : World) (htab : Lib.TabIs Tryd.prog w "internal/strconv.uint64pow10" .u64 Lib.pow10Tab) :
    Calls Tryd.prog 31 #[.int .i64 n] w fun e w' => e = .returned (.string ⟨(Lib.itoa n).toArray⟩) ∧ ∃ k os, w' = grow (w.drewN k) os := Any.strconv_Itoa Tryd.laysM171 n h0 h1 w htab
def Tryd.laysC172_ren : Go.Shelf.Ren := ⟨fun | 172 => 25 | 244 => 37 | 245 => 38 | 247 => 47 | 279 => 48 | 280 => 49 | 281 => 50 | 282 => 51 | 287 => 60 | 316 => 61 | 171 => 31 | 205 => 62 | 321 => 73 | 322 => 74 | 243 => 41 | 246 => 53 | 283 => 63 | 284 => 64 | 285 => 65 | 286 => 66 | 129 => 76 | 317 => 75 | 318 => 77 | 319 => 78 | 320 => 79 | 337 => 82 | 338 => 83 | n => n, fun | 9 => 9 | 3 => 3 | 75 => 43 | 76 => 44 | 4 => 4 | 5 => 5 | 167 => 72 | 37 => 34 | 0 => 0 | 85 => 73 | 2 => 2 | 168 => 75 | 53 => 84 | 175 => 85 | 46 => 63 | 210 => 89 | 127 => 61 | 145 => 101 | 143 => 99 | 21 => 21 | 171 => 91 | 173 => 94 | 212 => 103 | 51 => 62 | 20 => 20 | 213 => 104 | 232 => 114 | 233 => 115 | 80 => 48 | n => n, fun | 15 => 0 | 16 => 1 | 17 => 3 | 18 => 6 | 19 => 7 | n => n⟩
theorem Tryd.laysC172 : Go.Proofs.LaysC.n172 Tryd.prog Tryd.laysC172_ren := {
  mixed := by kernel_rfl
  f129 := Tryd.func76.trans (congrArg some (by kernel_rfl))
  f171 := Tryd.func31.trans (congrArg some (by kernel_rfl))
  f172 := Tryd.func25.trans (congrArg some (by kernel_rfl))
  f205 := Tryd.func62.trans (congrArg some (by kernel_rfl))
  f243 := Tryd.func41.trans (congrArg some (by kernel_rfl))
  f244 := Tryd.func37.trans (congrArg some (by kernel_rfl))
  f245 := Tryd.func38.trans (congrArg some (by kernel_rfl))
  f246 := Tryd.func53.trans (congrArg some (by kernel_rfl))
  f247 := Tryd.func47.trans (congrArg some (by kernel_rfl))
  f279 := Tryd.func48.trans (congrArg some (by kernel_rfl))
  f280 := Tryd.func49.trans (congrArg some (by kernel_rfl))
  f281 := Tryd.func50.trans (congrArg some (by kernel_rfl))
  f282 := Tryd.func51.trans (congrArg some (by kernel_rfl))
  f283 := Tryd.func63.trans (congrArg some (by kernel_rfl))
  f284 := Tryd.func64.trans (congrArg some (by kernel_rfl))
  f285 := Tryd.func65.trans (congrArg some (by kernel_rfl))
  f286 := Tryd.func66.trans (congrArg some (by kernel_rfl))
  f287 := Tryd.func60.trans (congrArg some (by kernel_rfl))
  f316 := Tryd.func61.trans (congrArg some (by kernel_rfl))
  f317 := Tryd.func75.trans (congrArg some (by kernel_rfl))
  f318 := Tryd.func77.trans (congrArg some (by kernel_rfl))
  f319 := Tryd.func78.trans (congrArg some (by kernel_rfl))
  f320 := Tryd.func79.trans (congrArg some (by kernel_rfl))
  f321 := Tryd.func73.trans (congrArg some (by kernel_rfl))
  f322 := Tryd.func74.trans (congrArg some (by kernel_rfl))
  f337 := Tryd.func82.trans (congrArg some (by kernel_rfl))
  f338 := Tryd.func83.trans (congrArg some (by kernel_rfl))
  t0 := Tryd.underlying0
  a0 := Tryd.isAgg0
  z0 := Tryd.sizeOf0
  v0 := Tryd.zeroValue0
  t2 := Tryd.underlying2
  a2 := Tryd.isAgg2
  z2 := Tryd.sizeOf2
  v2 := Tryd.zeroValue2
  t3 := Tryd.underlying3
  a3 := Tryd.isAgg3
  z3 := Tryd.sizeOf3
  v3 := Tryd.zeroValue3
  t4 := Tryd.underlying4
  a4 := Tryd.isAgg4
  z4 := Tryd.sizeOf4
  v4 := Tryd.zeroValue4
  t5 := Tryd.underlying5
  a5 := Tryd.isAgg5
  z5 := Tryd.sizeOf5
  v5 := Tryd.zeroValue5
  t9 := Tryd.underlying9
  a9 := Tryd.isAgg9
  z9 := Tryd.sizeOf9
  v9 := Tryd.zeroValue9
  t20 := Tryd.underlying20
  a20 := Tryd.isAgg20
  z20 := Tryd.sizeOf20
  v20 := Tryd.zeroValue20
  t21 := Tryd.underlying21
  a21 := Tryd.isAgg21
  z21 := Tryd.sizeOf21
  v21 := Tryd.zeroValue21
  t37 := Tryd.underlying34
  a37 := Tryd.isAgg34
  z37 := Tryd.sizeOf34
  v37 := Tryd.zeroValue34
  t46 := Tryd.underlying63
  a46 := Tryd.isAgg63
  z46 := Tryd.sizeOf63
  v46 := Tryd.zeroValue63
  t51 := Tryd.underlying62
  a51 := Tryd.isAgg62
  z51 := Tryd.sizeOf62
  v51 := Tryd.zeroValue62
  t53 := Tryd.underlying84
  a53 := Tryd.isAgg84
  z53 := Tryd.sizeOf84
  v53 := Tryd.zeroValue84
  t75 := Tryd.underlying43
  a75 := Tryd.isAgg43
  z75 := Tryd.sizeOf43
  v75 := Tryd.zeroValue43
  t76 := Tryd.underlying44
  a76 := Tryd.isAgg44
  z76 := Tryd.sizeOf44
  v76 := Tryd.zeroValue44
  t85 := Tryd.underlying73
  a85 := Tryd.isAgg73
  z85 := Tryd.sizeOf73
  v85 := Tryd.zeroValue73
  t127 := Tryd.underlying61
  a127 := Tryd.isAgg61
  z127 := Tryd.sizeOf61
  v127 := Tryd.zeroValue61
  t143 := Tryd.underlying99
  a143 := Tryd.isAgg99
  z143 := Tryd.sizeOf99
  v143 := Tryd.zeroValue99
  t145 := Tryd.underlying101
  a145 := Tryd.isAgg101
  z145 := Tryd.sizeOf101
  v145 := Tryd.zeroValue101
  t167 := Tryd.underlying72
  a167 := Tryd.isAgg72
  z167 := Tryd.sizeOf72
  v167 := Tryd.zeroValue72
  t168 := Tryd.underlying75
  a168 := Tryd.isAgg75
  z168 := Tryd.sizeOf75
  v168 := Tryd.zeroValue75
  t171 := Tryd.underlying91
  a171 := Tryd.isAgg91
  z171 := Tryd.sizeOf91
  v171 := Tryd.zeroValue91
  t173 := Tryd.underlying94
  a173 := Tryd.isAgg94
  z173 := Tryd.sizeOf94
  v173 := Tryd.zeroValue94
  t175 := Tryd.underlying85
  a175 := Tryd.isAgg85
  z175 := Tryd.sizeOf85
  v175 := Tryd.zeroValue85
  t210 := Tryd.underlying89
  a210 := Tryd.isAgg89
  z210 := Tryd.sizeOf89
  v210 := Tryd.zeroValue89
  t212 := Tryd.underlying103
  a212 := Tryd.isAgg103
  z212 := Tryd.sizeOf103
  v212 := Tryd.zeroValue103
  t213 := Tryd.underlying104
  a213 := Tryd.isAgg104
  z213 := Tryd.sizeOf104
  t232 := Tryd.underlying114
  a232 := Tryd.isAgg114
  z232 := Tryd.sizeOf114
  v232 := Tryd.zeroValue114
  t233 := Tryd.underlying115
  a233 := Tryd.isAgg115
  z233 := Tryd.sizeOf115
  v233 := Tryd.zeroValue115
  g15 := by kernel_rfl
  g16 := by kernel_rfl
  g17 := by kernel_rfl
  g18 := by kernel_rfl
  g19 := by kernel_rfl
  t80 := Tryd.underlying48
  a80 := Tryd.isAgg48
  z80 := Tryd.sizeOf48
  v80 := Tryd.zeroValue48
  i0 := by kernel_rfl
  i2 := by kernel_rfl
  i3 := by kernel_rfl
  i4 := by kernel_rfl
  i5 := by kernel_rfl
  i9 := by kernel_rfl
  i20 := by kernel_rfl
  i21 := by kernel_rfl
  i37 := by kernel_rfl
  i46 := by kernel_rfl
  i51 := by kernel_rfl
  i53 := by kernel_rfl
  i75 := by kernel_rfl
  i76 := by kernel_rfl
  i80 := by kernel_rfl
  i85 := by kernel_rfl
  i127 := by kernel_rfl
  i143 := by kernel_rfl
  i145 := by kernel_rfl
  i167 := by kernel_rfl
  i168 := by kernel_rfl
  i171 := by kernel_rfl
  i173 := by kernel_rfl
  i175 := by kernel_rfl
  i210 := by kernel_rfl
  i212 := by kernel_rfl
  i232 := by kernel_rfl
  i233 := by kernel_rfl
  m15 := by kernel_rfl
  m16 := by kernel_rfl
  m17 := by kernel_rfl
  m18 := by kernel_rfl
  m19 := by kernel_rfl
  c0 := by kernel_rfl
  c2 := by kernel_rfl
  c3 := by kernel_rfl
  c4 := by kernel_rfl
  c5 := by kernel_rfl
  c9 := by kernel_rfl
  c20 := by kernel_rfl
  c21 := by kernel_rfl
  c37 := by kernel_rfl
  c46 := by kernel_rfl
  c51 := by kernel_rfl
  c53 := by kernel_rfl
  c75 := by kernel_rfl
  c76 := by kernel_rfl
  c80 := by kernel_rfl
  c85 := by kernel_rfl
  c127 := by kernel_rfl
  c143 := by kernel_rfl
  c145 := by kernel_rfl
  c167 := by kernel_rfl
  c168 := by kernel_rfl
  c171 := by kernel_rfl
  c173 := by kernel_rfl
  c175 := by kernel_rfl
  c210 := by kernel_rfl
  c212 := by kernel_rfl
  c213 := by kernel_rfl
  c232 := by kernel_rfl
  c233 := by kernel_rfl }
open Go.RowKit in
theorem Tryd.strconv_Atoi_ok (s : ByteArray) (hmax : s.size ≤ 9223372036854775806) (v : Int) (h : Lib.atoiAll s.data.toList = .ok v) (w : World) :
    Calls Tryd.prog 25 #[.string s] w fun e w' => e = .returned (.tuple #[.int .i64 v, .nilIface]) ∧ (w' = w ∨ ∃ t, w' = Lib.bytesWorld w 5 t) := Any.strconv_Atoi_ok Tryd.laysC172 s hmax v h w
open Go.RowKit in
theorem Tryd.strconv_Atoi_syntax_var (s : ByteArray) (hlim : s.size ≤ 281474976710656) (h : Lib.atoiAll s.data.toList = Go.Lib.NumEnd.syntax) (tp : TypeId) (p : Value) (w : World) (hvar : w.var? Tryd.prog "strconv.ErrSyntax" = some #[.iface tp p]) :
    Calls Tryd.prog 25 #[.string s] w fun e w' => ∃ N, e = .returned (.tuple #[.int .i64 0, .iface 75 (.pointer (some ⟨N, 0, none⟩))]) ∧ w.heap.size ≤ N ∧ w'.heap[N]? = some (.cells #[.string ⟨#[65, 116, 111, 105]⟩, .string s, .iface tp p] 89 (0, 0)) ∧ Below w.heap.size w w' := Any.strconv_Atoi_syntax_var Tryd.laysC172 s hlim h tp p w hvar
open Go.RowKit in
theorem Tryd.strconv_Atoi_range_var (s : ByteArray) (hlim : s.size ≤ 281474976710656) (h : Lib.atoiAll s.data.toList = .range) (tp : TypeId) (p : Value) (w : World) (hvar : w.var? Tryd.prog "strconv.ErrRange" = some #[.iface tp p]) :
    Calls Tryd.prog 25 #[.string s] w fun e w' => ∃ N, e = .returned (.tuple #[.int .i64 (Lib.atoiSat s.data.toList), .iface 75 (.pointer (some ⟨N, 0, none⟩))]) ∧ w.heap.size ≤ N ∧ w'.heap[N]? = some (.cells #[.string ⟨#[65, 116, 111, 105]⟩, .string s, .iface tp p] 89 (0, 0)) ∧ Below w.heap.size w w' := Any.strconv_Atoi_range_var Tryd.laysC172 s hlim h tp p w hvar
def Tryd.laysGw17_ren : Go.Shelf.Ren := ⟨fun | 17 => 34 | 15 => 43 | 20 => 55 | n => n, fun | 9 => 9 | 23 => 59 | 4 => 4 | 3 => 3 | 0 => 0 | 21 => 21 | n => n, fun | n => n⟩
theorem Tryd.laysGw17 : Go.Proofs.LaysGw.n17 Tryd.prog Tryd.laysGw17_ren := {
  mixed := by kernel_rfl
  f15 := Tryd.func43.trans (congrArg some (by kernel_rfl))
  f17 := Tryd.func34.trans (congrArg some (by kernel_rfl))
  f20 := Tryd.func55.trans (congrArg some (by kernel_rfl))
  t0 := Tryd.underlying0
  a0 := Tryd.isAgg0
  z0 := Tryd.sizeOf0
  v0 := Tryd.zeroValue0
  i0 := by kernel_rfl
  t3 := Tryd.underlying3
  a3 := Tryd.isAgg3
  z3 := Tryd.sizeOf3
  v3 := Tryd.zeroValue3
  i3 := by kernel_rfl
  t4 := Tryd.underlying4
  a4 := Tryd.isAgg4
  z4 := Tryd.sizeOf4
  v4 := Tryd.zeroValue4
  i4 := by kernel_rfl
  t9 := Tryd.underlying9
  a9 := Tryd.isAgg9
  z9 := Tryd.sizeOf9
  v9 := Tryd.zeroValue9
  i9 := by kernel_rfl
  t21 := Tryd.underlying21
  a21 := Tryd.isAgg21
  z21 := Tryd.sizeOf21
  v21 := Tryd.zeroValue21
  i21 := by kernel_rfl
  t23 := Tryd.underlying59
  a23 := Tryd.isAgg59
  z23 := Tryd.sizeOf59
  v23 := Tryd.zeroValue59
  i23 := by kernel_rfl }
open Go.RowKit Go.Lib in
theorem Tryd.strings_ContainsFunc (g : Nat) (lb : Array Value) (eg : ∀ args w, (callFunc g args).run Tryd.prog w = .ok (.enter g args) w) (p : Nat → Bool) (s : ByteArray) (w : World) (hp : PredAt Tryd.prog g lb encR p w) :
    Calls Tryd.prog 34 #[.string s, .func (.func g) #[] lb] w fun e w' => e = .returned (.bool (decide (0 ≤ Lib.idxFunc p true s))) ∧ Below w.heap.size w w' := Any.strings_ContainsFunc Tryd.laysGw17 g lb eg p s w hp
def Tryd.lays101_ren : Go.Shelf.Ren := ⟨fun | 101 => 26 | 208 => 39 | 206 => 52 | n => n, fun | 9 => 9 | 4 => 4 | 3 => 3 | n => n, fun | n => n⟩
theorem Tryd.lays101 : Go.Proofs.Lays.n101 Tryd.prog Tryd.lays101_ren := {
  mixed := by kernel_rfl
  f101 := Tryd.func26.trans (congrArg some (by kernel_rfl))
  f206 := Tryd.func52.trans (congrArg some (by kernel_rfl))
  f208 := Tryd.func39.trans (congrArg some (by kernel_rfl))
  t3 := Tryd.underlying3
  a3 := Tryd.isAgg3
  z3 := Tryd.sizeOf3
  v3 := Tryd.zeroValue3
  t4 := Tryd.underlying4
  a4 := Tryd.isAgg4
  z4 := Tryd.sizeOf4
  v4 := Tryd.zeroValue4
  t9 := Tryd.underlying9
  a9 := Tryd.isAgg9
  z9 := Tryd.sizeOf9
  v9 := Tryd.zeroValue9 }
open Go.RowKit Go.Lib in
theorem Tryd.strings_TrimPrefix (s p : ByteArray) (w : World) :
    Calls Tryd.prog 26 #[.string s, .string p] w fun e w' => e = .returned (.string ⟨(Lib.trimPrefix s.data.toList p.data.toList).toArray⟩) ∧ w' = w := Any.strings_TrimPrefix Tryd.lays101 s p w
def Tryd.lays146_ren : Go.Shelf.Ren := ⟨fun | 146 => 24 | 221 => 36 | 268 => 44 | 138 => 45 | 143 => 46 | 195 => 56 | 197 => 57 | 218 => 58 | 219 => 59 | 260 => 68 | 217 => 69 | 225 => 70 | 224 => 71 | 267 => 72 | 266 => 80 | 314 => 81 | n => n, fun | 9 => 9 | 31 => 47 | 3 => 3 | 4 => 4 | 0 => 0 | 105 => 81 | 21 => 21 | 5 => 5 | 46 => 63 | 119 => 107 | 139 => 110 | 138 => 109 | 146 => 111 | 51 => 62 | n => n, fun | 1 => 2 | 3 => 4 | 4 => 5 | n => n⟩
theorem Tryd.lays146 : Go.Proofs.Lays.n146 Tryd.prog Tryd.lays146_ren := {
  mixed := by kernel_rfl
  f138 := Tryd.func45.trans (congrArg some (by kernel_rfl))
  f143 := Tryd.func46.trans (congrArg some (by kernel_rfl))
  f146 := Tryd.func24.trans (congrArg some (by kernel_rfl))
  f195 := Tryd.func56.trans (congrArg some (by kernel_rfl))
  f197 := Tryd.func57.trans (congrArg some (by kernel_rfl))
  f217 := Tryd.func69.trans (congrArg some (by kernel_rfl))
  f218 := Tryd.func58.trans (congrArg some (by kernel_rfl))
  f219 := Tryd.func59.trans (congrArg some (by kernel_rfl))
  f221 := Tryd.func36.trans (congrArg some (by kernel_rfl))
  f224 := Tryd.func71.trans (congrArg some (by kernel_rfl))
  f225 := Tryd.func70.trans (congrArg some (by kernel_rfl))
  f260 := Tryd.func68.trans (congrArg some (by kernel_rfl))
  f266 := Tryd.func80.trans (congrArg some (by kernel_rfl))
  f267 := Tryd.func72.trans (congrArg some (by kernel_rfl))
  f268 := Tryd.func44.trans (congrArg some (by kernel_rfl))
  f314 := Tryd.func81.trans (congrArg some (by kernel_rfl))
  t0 := Tryd.underlying0
  a0 := Tryd.isAgg0
  z0 := Tryd.sizeOf0
  v0 := Tryd.zeroValue0
  t3 := Tryd.underlying3
  a3 := Tryd.isAgg3
  z3 := Tryd.sizeOf3
  v3 := Tryd.zeroValue3
  t4 := Tryd.underlying4
  a4 := Tryd.isAgg4
  z4 := Tryd.sizeOf4
  v4 := Tryd.zeroValue4
  t5 := Tryd.underlying5
  a5 := Tryd.isAgg5
  z5 := Tryd.sizeOf5
  v5 := Tryd.zeroValue5
  t9 := Tryd.underlying9
  a9 := Tryd.isAgg9
  z9 := Tryd.sizeOf9
  v9 := Tryd.zeroValue9
  t21 := Tryd.underlying21
  a21 := Tryd.isAgg21
  z21 := Tryd.sizeOf21
  v21 := Tryd.zeroValue21
  t31 := Tryd.underlying47
  a31 := Tryd.isAgg47
  z31 := Tryd.sizeOf47
  v31 := Tryd.zeroValue47
  t46 := Tryd.underlying63
  a46 := Tryd.isAgg63
  z46 := Tryd.sizeOf63
  v46 := Tryd.zeroValue63
  t51 := Tryd.underlying62
  a51 := Tryd.isAgg62
  z51 := Tryd.sizeOf62
  v51 := Tryd.zeroValue62
  t105 := Tryd.underlying81
  a105 := Tryd.isAgg81
  z105 := Tryd.sizeOf81
  v105 := Tryd.zeroValue81
  t119 := Tryd.underlying107
  a119 := Tryd.isAgg107
  z119 := Tryd.sizeOf107
  t138 := Tryd.underlying109
  a138 := Tryd.isAgg109
  z138 := Tryd.sizeOf109
  v138 := Tryd.zeroValue109
  t139 := Tryd.underlying110
  a139 := Tryd.isAgg110
  z139 := Tryd.sizeOf110
  v139 := Tryd.zeroValue110
  t146 := Tryd.underlying111
  a146 := Tryd.isAgg111
  z146 := Tryd.sizeOf111
  v146 := Tryd.zeroValue111
  g1 := by kernel_rfl
  g3 := by kernel_rfl
  g4 := by kernel_rfl }
open Go.RowKit Go.Lib in
theorem Tryd.strings_Split (s sep : ByteArray) (m : Int) (w : World) (hs : s.size < 4294967281) (hm : w.cell? ⟨2, 0, none⟩ = some (.int .i64 m)) (h1 : 1 ≤ sep.size) :
    Calls Tryd.prog 24 #[.string s, .string sep] w fun e w' =>
      e = .returned (.slice (some ⟨w.heap.size, 0, none⟩) (Lib.countB s sep + 1) (Lib.countB s sep + 1)) ∧ w' = w.alloc (.cells ((Lib.splitB sep 0 (Lib.countB s sep) s).map Value.string).toArray 9) := Any.strings_Split Tryd.lays146 (by kernel_rfl) s sep m w hs hm h1
def Tryd.lays166_ren : Go.Shelf.Ren := ⟨fun | 166 => 15 | 240 => 30 | 276 => 40 | n => n, fun | 0 => 0 | 3 => 3 | 4 => 4 | 5 => 5 | 9 => 9 | 20 => 20 | 37 => 34 | 70 => 39 | 72 => 41 | 75 => 43 | 80 => 48 | 164 => 66 | n => n, fun | n => n⟩
theorem Tryd.lays166 : Go.Proofs.Lays.n166 Tryd.prog Tryd.lays166_ren := {
  mixed := by kernel_rfl
  f166 := Tryd.func15.trans (congrArg some (by kernel_rfl))
  f240 := Tryd.func30.trans (congrArg some (by kernel_rfl))
  f276 := Tryd.func40.trans (congrArg some (by kernel_rfl))
  t0 := Tryd.underlying0
  a0 := Tryd.isAgg0
  z0 := Tryd.sizeOf0
  v0 := Tryd.zeroValue0
  t3 := Tryd.underlying3
  a3 := Tryd.isAgg3
  z3 := Tryd.sizeOf3
  v3 := Tryd.zeroValue3
  t4 := Tryd.underlying4
  a4 := Tryd.isAgg4
  z4 := Tryd.sizeOf4
  v4 := Tryd.zeroValue4
  t9 := Tryd.underlying9
  a9 := Tryd.isAgg9
  z9 := Tryd.sizeOf9
  v9 := Tryd.zeroValue9
  t20 := Tryd.underlying20
  a20 := Tryd.isAgg20
  z20 := Tryd.sizeOf20
  v20 := Tryd.zeroValue20
  t37 := Tryd.underlying34
  a37 := Tryd.isAgg34
  z37 := Tryd.sizeOf34
  v37 := Tryd.zeroValue34
  t70 := Tryd.underlying39
  a70 := Tryd.isAgg39
  z70 := Tryd.sizeOf39
  v70 := Tryd.zeroValue39
  t72 := Tryd.underlying41
  a72 := Tryd.isAgg41
  z72 := Tryd.sizeOf41
  v72 := Tryd.zeroValue41
  t75 := Tryd.underlying43
  a75 := Tryd.isAgg43
  z75 := Tryd.sizeOf43
  v75 := Tryd.zeroValue43
  t164 := Tryd.underlying66
  a164 := Tryd.isAgg66
  z164 := Tryd.sizeOf66
  v164 := Tryd.zeroValue66 }

theorem Tryd.Builder_Extra_166 : Builder.Extra Tryd.prog Tryd.lays166_ren := {
  sizeBuilder := by kernel_rfl
  liesBuilder := by kernel_rfl
  t5 := Tryd.underlying5
  a5 := Tryd.isAgg5
  z5 := Tryd.sizeOf5
  v5 := Tryd.zeroValue5
  infoByte := by kernel_rfl
  cellsByte := by kernel_rfl
  sizeByte := by kernel_rfl
  neB5 := by decide }

open Go.RowKit in
theorem Tryd.Builder_WriteString_k (B b : Nat) (bs : List Value) (s : ByteArray) (w : World) (h : Lib.IsBuilderF 41 5 B b bs w) (hlen : bs.length + s.size ≤ 140737488355328) (hBw : B ≤ w.heap.size) :
    Calls Tryd.prog 15 #[.pointer (some ⟨b, 0, none⟩), .string s] w fun e w' => e = .returned (.tuple #[.int .i64 s.size, .nilIface]) ∧ (Lib.BuilderAtF 41 5 B b (.pointer (some ⟨b, 0, none⟩)) (bs ++ Lib.strCells s) w' ∧ Below B w w' ∧ Lib.OthersKept 5 (some b) w w') := Any.Builder_WriteString_k Tryd.lays166 Tryd.Builder_Extra_166 B b bs s w h hlen hBw
end Go.Proofs

/- Glob -/
namespace Go.Proofs.YtmgabnodachboaaDoor.O
open Go.RowKit Go.Proofs.YtmgabnodachboaaDoorW.PrintWords Go.Proofs.YtmgabnodachboaaDoorW.PrintLast Go.Proofs.YtmgabnodachboaaDoorW.PrintMore
set_option linter.unusedVariables false
set_option linter.unusedSimpArgs false

structure Glob (w : World) : Prop where
  pow : Lib.TabIs Tryd.prog w "internal/strconv.uint64pow10" .u64 Lib.pow10Tab
  mlen : ∃ m, w.var? Tryd.prog "internal/bytealg.MaxLen" = some #[.int .i64 m]
  syn : ∃ t p, w.var? Tryd.prog "strconv.ErrSyntax" = some #[.iface t p]
  rng : ∃ t p, w.var? Tryd.prog "strconv.ErrRange" = some #[.iface t p]
theorem gpow : Tryd.prog.globalNamed "internal/strconv.uint64pow10" = some 3 := by kernel_rfl
theorem gmlen : Tryd.prog.globalNamed "internal/bytealg.MaxLen" = some 2 := by kernel_rfl
theorem gsyn : Tryd.prog.globalNamed "strconv.ErrSyntax" = some 0 := by kernel_rfl
theorem grng : Tryd.prog.globalNamed "strconv.ErrRange" = some 1 := by kernel_rfl
theorem Glob.below {w w' : World} (h : Glob w) (hb : Below w.heap.size w w') : Glob w' := by
  obtain ⟨h1, ⟨m, h2⟩, ⟨t3, p3, h3⟩, ⟨t4, p4, h4⟩⟩ := h
  exact ⟨Joins.var_stays gpow h1 hb (Nat.le_refl _), ⟨m, Joins.var_stays gmlen h2 hb (Nat.le_refl _)⟩, ⟨t3, p3, Joins.var_stays gsyn h3 hb (Nat.le_refl _)⟩, ⟨t4, p4, Joins.var_stays grng h4 hb (Nat.le_refl _)⟩⟩
theorem Glob.cell {w : World} (h : Glob w) : ∃ m, w.cell? ⟨2, 0, none⟩ = some (.int .i64 m) := by
  obtain ⟨m, hm⟩ := h.mlen
  exact ⟨m, by have h0 := World.var?_cell gmlen hm 0; simpa using h0⟩
/-- An error of the library's: none, or some interface value. -/
def ErrIs : Option Int → Value → Prop
  | none, v => v = .nilIface
  | some _, v => ∃ t p, v = .iface t p
theorem ErrIs.none_ {v : Value} (h : ErrIs none v) : v = .nilIface := h
theorem ErrIs.some_ {c : Int} {v : Value} (h : ErrIs (some c) v) : ∃ t p, v = .iface t p := h
theorem below_bytes (w : World) (e : TypeId) (s : ByteArray) : Below w.heap.size w (Lib.bytesWorld w e s) :=
  ⟨rfl, rfl, rfl, by rw [Lib.bytesWorld_size]; omega, fun i hi => Lib.bytesWorld_at_old w e s i hi⟩
theorem below_grown_ (w : World) (k : Nat) (os : Array Obj) : Below w.heap.size w (Sort.grow (w.drewN k) os) :=
  ⟨rfl, rfl, rfl, by show w.heap.size ≤ (w.heap ++ os).size; rw [Array.size_append]; omega, fun j hj => by
    show (w.heap ++ os)[j]? = w.heap[j]?
    rw [Array.getElem?_append_left hj]⟩
theorem bt_getD (s : ByteArray) (k : Nat) (h : k < s.size) : ((s.data.toList.getD k 0).toNat : Int) = bt s k := by
  unfold bt
  have h2 : k < s.data.size := h
  simp [h, List.getD_eq_getElem?_getD]
  rfl
theorem ret_int {k : IntKind} {a b : Int} (h : a = b) : Ending.returned (.int k a) = .returned (.int k b) := by rw [h]
theorem ret_str {a b : ByteArray} (h : a = b) : Ending.returned (.string a) = .returned (.string b) := by rw [h]
theorem ret_bool {a b : Bool} (h : a = b) : Ending.returned (.bool a) = .returned (.bool b) := by rw [h]
end Go.Proofs.YtmgabnodachboaaDoor.O

/- Onum -/
namespace Go.Proofs.YtmgabnodachboaaDoor.O
open Go.RowKit Go.Proofs.YtmgabnodachboaaDoorW.PrintWords Go.Proofs.YtmgabnodachboaaDoorW.PrintLast Go.Proofs.YtmgabnodachboaaDoorW.PrintMore
set_option linter.unusedVariables false
set_option linter.unusedSimpArgs false

def strconv_Itoa.f (a0 : Int) : Option ByteArray := if -9223372036854775808 ≤ a0 ∧ a0 ≤ 9223372036854775807 then some ⟨(Lib.itoa a0).toArray⟩ else none
theorem strconv_Itoa.calls (a0 : Int) (r : ByteArray) (w : World) (hG : Glob w) (h : strconv_Itoa.f a0 = some r) :
    Calls Tryd.prog 31 #[.int .i64 a0] w fun e w' => e = .returned (.string r) ∧ Below w.heap.size w w' := by
  unfold strconv_Itoa.f at h
  split at h
  case isFalse => exact absurd h (by simp)
  rename_i hb
  obtain rfl := Option.some.inj h
  refine (Tryd.strconv_Itoa a0 hb.1 hb.2 w hG.pow).mono ?_
  rintro e w' ⟨rfl, k, os, rfl⟩
  exact ⟨rfl, below_grown_ _ k os⟩
def atoiF (l : List UInt8) : Int × Option Int := match Lib.atoiAll l with
  | .ok v => (v, none)
  | Lib.NumEnd.syntax => (0, some 0)
  | .range => (Lib.atoiSat l, some 1)
def strconv_Atoi.f (a0 : ByteArray) : Option (Int × Option Int) := if a0.size ≤ 281474976710656 then some (atoiF a0.data.toList) else none
theorem strconv_Atoi.calls (a0 : ByteArray) (r1 : Int) (r2 : Option Int) (w : World) (hG : Glob w) (h : strconv_Atoi.f a0 = some (r1, r2)) :
    Calls Tryd.prog 25 #[.string a0] w fun e w' => ∃ pv, ErrIs r2 pv ∧ e = .returned (.tuple #[.int .i64 r1, pv]) ∧ Below w.heap.size w w' := by
  unfold strconv_Atoi.f at h
  split at h
  case isFalse => exact absurd h (by simp)
  rename_i hb
  have h' := Option.some.inj h
  unfold atoiF at h'
  split at h'
  · rename_i v hv
    obtain ⟨rfl, rfl⟩ := Prod.mk.inj h'
    refine (Tryd.strconv_Atoi_ok a0 (by omega) v hv w).mono ?_
    rintro e w' ⟨rfl, rfl | ⟨t, rfl⟩⟩
    · exact ⟨_, rfl, rfl, Below.refl _ _⟩
    · exact ⟨_, rfl, rfl, below_bytes _ _ _⟩
  · rename_i hv
    obtain ⟨rfl, rfl⟩ := Prod.mk.inj h'
    obtain ⟨t, p, hs⟩ := hG.syn
    refine (Tryd.strconv_Atoi_syntax_var a0 hb hv t p w hs).mono ?_
    rintro e w' ⟨n, rfl, _, _, hbel⟩
    exact ⟨_, ⟨_, _, rfl⟩, rfl, hbel⟩
  · rename_i hv
    obtain ⟨rfl, rfl⟩ := Prod.mk.inj h'
    obtain ⟨t, p, hs⟩ := hG.rng
    refine (Tryd.strconv_Atoi_range_var a0 hb hv t p w hs).mono ?_
    rintro e w' ⟨n, rfl, _, _, hbel⟩
    exact ⟨_, ⟨_, _, rfl⟩, rfl, hbel⟩
end Go.Proofs.YtmgabnodachboaaDoor.O

/- Ostr -/
namespace Go.Proofs.YtmgabnodachboaaDoor.O
open Go.RowKit Go.Proofs.YtmgabnodachboaaDoorW.PrintWords Go.Proofs.YtmgabnodachboaaDoorW.PrintLast Go.Proofs.YtmgabnodachboaaDoorW.PrintMore
set_option linter.unusedVariables false
set_option linter.unusedSimpArgs false

theorem encs_map {α : Type} (enc : α → Value) (xs : List α) : encs enc xs = xs.map enc := by simp [encs]
/-- A row of strings that was just laid. -/
theorem row_new (w : World) (e : TypeId) (xs : List ByteArray) (n : Nat) (hn : xs.length = n) (hm : n ≤ 9223372036854775807) :
    Kd.R Kd.string e (w.alloc (.cells (xs.map Value.string).toArray e)) w.heap.size (fun _ => True) (.slice (some ⟨w.heap.size, 0, none⟩) n n) xs := by
  subst hn
  refine Kd.R_of_own ?_ (fun _ _ => trivial)
  rw [encs_map]
  have h2 := World.ownsRow_lit (base := w.heap.size) (e := e) (size := 1) w (xs.map Value.string).toArray xs.length (Nat.le_refl _) (by simpa [maxLen] using hm) (by simp)
  simpa using h2
def strings_Split.f (a0 a1 : ByteArray) : Option (List ByteArray) := if a0.size < 4294967281 ∧ 1 ≤ a1.size then some (Lib.splitB a1 0 (Lib.countB a0 a1) a0) else none
theorem strings_Split.calls (a0 a1 : ByteArray) (r : List ByteArray) (w : World) (hG : Glob w) (h : strings_Split.f a0 a1 = some r) :
    Calls Tryd.prog 24 #[.string a0, .string a1] w fun e w' => ∃ v0_ : Value, e = .returned v0_ ∧ Kd.R Kd.string 9 w' w.heap.size (fun _ => True) v0_ r ∧ Below w.heap.size w w' := by
  unfold strings_Split.f at h
  split at h
  case isFalse => exact absurd h (by simp)
  rename_i hb
  obtain rfl := Option.some.inj h
  obtain ⟨m, hm⟩ := hG.cell
  refine (Tryd.strings_Split a0 a1 m w hb.1 hm hb.2).mono ?_
  rintro e w' ⟨rfl, rfl⟩
  have hl := Lib.splitB_all a1 hb.2 0 _ a0 rfl
  have hc := Lib.countB_le a1 hb.2 a0.size a0 (Nat.le_refl _)
  exact ⟨_, rfl, row_new w _ _ _ hl (by omega), below_alloc (Below.refl _ _) _⟩
def joinB (l : List ByteArray) (sep : ByteArray) : List UInt8 := Lib.join (l.map (·.data.toList)) sep.data.toList
def strings_Join.f (l0 : List ByteArray) (a1 : ByteArray) : Option ByteArray := if l0.length ≤ 140737488355328 ∧ (joinB l0 a1).length ≤ 140737488355328 then some ⟨(joinB l0 a1).toArray⟩ else none
theorem strings_Join.calls (A0 : Option Addr) (c0 : Nat) (l0 : List ByteArray) (a1 : ByteArray) (r : ByteArray) (w : World) (hr0 : Kd.C Kd.string w A0 l0.length l0) (hc0 : l0.length ≤ c0) (h : strings_Join.f l0 a1 = some r) :
    Calls Tryd.prog 32 #[.slice A0 l0.length c0, .string a1] w fun e w' => e = .returned (.string r) ∧ Below w.heap.size w w' := by
  unfold strings_Join.f at h
  split at h
  case isFalse => exact absurd h (by simp)
  rename_i hb
  obtain rfl := Option.some.inj h
  rcases Nat.eq_zero_or_pos l0.length with h0 | h0
  · obtain rfl := List.eq_nil_of_length_eq_zero h0
    refine (Tryd.strings_Join_none A0 c0 a1 w).mono ?_
    rintro e w' ⟨rfl, rfl⟩
    exact ⟨rfl, Below.refl _ _⟩
  · obtain ⟨h1, h2, h3⟩ := Kd.reads_of_C (enc := Value.string) (d := ByteArray.empty) (h1 := fun _ => rfl) hr0
    obtain ⟨ad, rfl, hc⟩ := h3 h0
    have hc0' := hc 0 h0
    have hsp : ad.spot = none := by
      cases hs : ad.spot with
      | none => rfl
      | some q =>
        exfalso
        rw [show ad.add 0 = ad from rfl] at hc0'
        unfold World.cell? at hc0'
        rw [hs] at hc0'
        split at hc0' <;> simp at hc0'
    obtain ⟨bk, o, sp⟩ := ad
    simp only at hsp
    subst hsp
    have hcell : ∀ (j : Nat) x, l0[j]? = some x → w.cell? ⟨bk, o + j, none⟩ = some (.string x) := by
      intro j x hx
      obtain ⟨hl, hx'⟩ := List.getElem?_eq_some_iff.1 hx
      have := hc j hl
      rw [show (⟨bk, o, none⟩ : Addr).add j = ⟨bk, o + j, none⟩ from by unfold Addr.add; split <;> simp_all] at this
      rw [this, List.getD_eq_getElem?_getD, hx]
      rfl
    have hbk : bk < w.heap.size := World.block_lt_of_cell? w _ (hcell 0 _ (List.getElem?_eq_getElem h0))
    exact Tryd.strings_Join bk o c0 l0 a1 w hcell hbk hb.1 hc0 hb.2
end Go.Proofs.YtmgabnodachboaaDoor.O

/- Px4 -/
namespace Go.Proofs.YtmgabnodachboaaDoor.P
open Go.Proofs.YtmgabnodachboaaDoor.B
open Go.RowKit Go.Proofs.YtmgabnodachboaaDoorW.PrintWords Go.Proofs.YtmgabnodachboaaDoorW.PrintLast Go.Proofs.YtmgabnodachboaaDoorW.PrintMore
attribute [local go_sem] str_leq str_gtr str_geq max2_int min2_int max_two min_two max_three min_three max_four min_four   -- for this text's walks alone
set_option linter.unusedVariables false
set_option linter.unusedSimpArgs false

open Go.Proofs.YtmgabnodachboaaDoor.O
/-! ### manifest_line: function 16 -/
def manifest_line.l0 : Nat → List ByteArray → List Int → Int → Int → Option (ByteArray)
  | 0, _, _, _, _ => none
  | k + 1, x0, x7, x8, x9 => if x9 < x8 then (if 0 ≤ x9 then (if x9 < (x7.length : Int) then ((strconv_Itoa.f (rd x7 x9)).bind fun t105 => (if x0.length < 8796093022208 then (manifest_line.l0 k (x0 ++ [t105]) x7 x8 (wrap64 (x9 + 1))) else (none))) else (none)) else (none)) else ((strings_Join.f x0 (⟨#[32]⟩ : ByteArray)).bind fun t109 => (if t109.size + 1 ≤ 9223372036854775807 then (some (t109 ++ (⟨#[10]⟩ : ByteArray))) else (none)))
def manifest_line.f (k : Nat) (l0 : List ByteArray) (l1 : List Int) : Option (ByteArray) := manifest_line.l0 k l0 l1 (l1.length : Int) 0
theorem manifest_line.mono_l : ∀ k, (∀ y0 y1 y2 y3, LeO (manifest_line.l0 k y0 y1 y2 y3) (manifest_line.l0 (k + 1) y0 y1 y2 y3))
  | 0 => fun _ _ _ _ r h => by simp [manifest_line.l0] at h
  | k + 1 => by
    have ih0 := manifest_line.mono_l k
    · intro y0 y1 y2 y3
      unfold manifest_line.l0
      repeat' first
      | (with_reducible exact ih0 _ _ _ _)
      | (with_reducible exact LeO.refl _)
      | (with_reducible exact LeO.none _)
      | (with_reducible refine LeO.ite ?_ ?_)
      | (with_reducible refine LeO.bind ?_ (fun _ => ?_))
      | exact ih0 _ _ _ _
      | exact LeO.none _
      | refine LeO.ite ?_ ?_
      | refine LeO.bind ?_ (fun _ => ?_)
theorem manifest_line.mono : ∀ a0 a1 k, LeO (manifest_line.f k a0 a1) (manifest_line.f (k + 1) a0 a1) := by
  intro a0 a1 k
  have ih0 := manifest_line.mono_l k
  unfold manifest_line.f
  repeat' first
      | (with_reducible exact ih0 _ _ _ _)
      | (with_reducible exact LeO.refl _)
      | (with_reducible exact LeO.none _)
      | (with_reducible refine LeO.ite ?_ ?_)
      | (with_reducible refine LeO.bind ?_ (fun _ => ?_))
      | exact ih0 _ _ _ _
      | exact LeO.none _
      | refine LeO.ite ?_ ?_
      | refine LeO.bind ?_ (fun _ => ?_)
set_option maxHeartbeats 8000000 in
set_option maxRecDepth 100000 in
theorem manifest_line.calls (k : Nat) (P0_ : Nat → Prop) (u9000_ : Value) (l0 : List ByteArray) (A1 : Option Addr) (c1 : Nat) (l1 : List Int) (r : ByteArray) (w0 w : World) (hB : Below w0.heap.size w0 w) (ho0 : Kd.R Kd.string 9 w w0.heap.size P0_ u9000_ l0) (hr1 : ∀ W_, Kept w W_ (fun k_ => P0_ k_) → Kd.C (Kd.int .i64) W_ A1 l1.length l1) (hc1 : l1.length ≤ c1) (hG : Glob w0) (h : manifest_line.f k l0 l1 = some r) :
    Calls Tryd.prog 16 #[u9000_, .slice A1 l1.length c1] w fun e w' => e = .returned (.string r) ∧ Below w0.heap.size w0 w' ∧ Kept w w' (fun k_ => P0_ k_) := by
  have HO0 := Aside0.mk (show Kd.R Kd.string 9 w w0.heap.size (fun k_ => (P0_ k_ ∨ w.heap.size ≤ k_)) u9000_ l0 from Kd.R_mono ho0 (fun k_ hk => (.inl hk)))
  have HR1 := Aside0.mk hr1
  have HC1 := Aside0.mk hc1
  clear hr1 hc1
  have HK := Aside0.mk (Kept.refl w (fun k_ => P0_ k_))
  have HW0 := Aside0.mk hB.size
  have HB := Aside0.mk hB
  clear hB
  have hGA := Aside0.mk hG
  clear hG
  have H : (manifest_line.l0 k l0 l1 (l1.length : Int) 0) = some r := h
  clear h
  have H' := Aside0.mk H
  clear H
  go_enter Tryd.func16, Tryd.ntmps16
  go_wp2
  go_loopg [0, 9] k (fun kq v0 v9 w' => ∃ (x0_1 : List ByteArray) (x9_1 : Int), v9 = .int .i64 x9_1 ∧ Aside0 (manifest_line.l0 kq x0_1 l1 (l1.length : Int) x9_1 = some r) ∧ Aside0 (kq ≤ k) ∧ Aside0 (Kd.R Kd.string 9 w' w0.heap.size (fun k_ => (P0_ k_ ∨ w.heap.size ≤ k_)) v0 x0_1) ∧ Aside0 (Kept w w' (fun k_ => P0_ k_)) ∧ Aside0 (Below w0.heap.size w0 w'))
  case atStart => exact ⟨(l0), (0), (by first | rfl | (simp; done) | (simp [*]; done)), H', ⟨Nat.le_refl _⟩, ⟨by (with_reducible repeat (first | apply Kd.R_alloc | apply Kd.R_drewN | apply Kd.R_drew)); exact HO0.out⟩, ⟨by repeat (first | (with_reducible first | exact HK.out | apply Kept.alloc | apply Kept.drewN | apply Kept.drew) | exact HK.out)⟩, ⟨by repeat (first | (with_reducible first | exact HB.out | apply below_alloc | apply pw_below_drewN | apply below_drew1) | exact HB.out)⟩⟩
  case round =>
    clear H'
    try clear c1
    try clear p2
    obtain ⟨x0_1, x9_1, rfl, HA, HK1, HO_0, HK, HB⟩ := hrel
    cases gk with
    | zero => exact absurd HA.out (by simp [manifest_line.l0])
    | succ k1 =>
      have H := HA.out
      clear HA
      simp only [manifest_line.l0] at H
      by_cases c3 : x9_1 < (l1.length : Int)
      · rw [if_pos c3] at H
        have c3b0 : decide (x9_1 < (l1.length : Int)) = true := decide_eq_true c3
        clear c3
        by_cases c4 : 0 ≤ x9_1
        · rw [if_pos c4] at H
          have c4b0 : decide (0 ≤ x9_1) = true := decide_eq_true c4
          clear c4
          by_cases c5 : x9_1 < (l1.length : Int)
          · rw [if_pos c5] at H
            have c5b0 : decide (x9_1 < (l1.length : Int)) = true := decide_eq_true c5
            clear c5
            replace H := Option.bind_eq_some_iff.mp H
            obtain ⟨t105, A60, H⟩ := H
            replace H : (if x0_1.length < 8796093022208 then (manifest_line.l0 k1 (x0_1 ++ [t105]) l1 (l1.length : Int) (wrap64 (x9_1 + 1))) else (none)) = some r := H
            have A6 := Aside0.mk A60
            clear A60
            by_cases c7 : x0_1.length < 8796093022208
            · rw [if_pos c7] at H
              have LMc7 := Aside0.mk c7
              clear c7
              obtain ⟨y106, hy106⟩ : ∃ y_ : List ByteArray, y_ = (x0_1 ++ [t105]) := ⟨_, rfl⟩
              replace H : (manifest_line.l0 k1 y106 l1 (l1.length : Int) (wrap64 (x9_1 + 1))) = some r := by first | (rw [hy106]; with_reducible exact H) | (have H2_ := (Option.bind_some _ _).symm.trans H; rw [hy106]; with_reducible exact H2_) | (have H2_ := (Option.bind_some _ _).symm.trans H; with_reducible exact H2_) | with_reducible exact H | (rw [hy106]; exact H) | exact H
              have Ny106 := Aside0.mk hy106
              clear hy106
              have H' := Aside0.mk H
              clear H
              have p104 : 0 ≤ (x9_1 : Int) := of_decide_eq_true (by first | (with_reducible assumption) | assumption)
              have q104 : x9_1 < (l1.length : Int) := of_decide_eq_true (by first | (with_reducible assumption) | assumption)
              obtain ⟨ad104, e104, hx104_0⟩ := Kd.at_int (Kd.C_kept_now HR1.out HK.out) x9_1 p104 q104
              cases e104
              replace p104 := eq_true p104
              replace q104 := eq_true q104
              go_wp2_with (first | ((with_reducible refine gate_callee (f := 31) rfl ?_); refine goesL_ (some 15) rfl rfl Tryd.func31 (by kernel_rfl) rfl #[.int .i64 (rd l1 x9_1)] rfl (by (try simp only [List.map_toArray, List.map_cons, List.map_nil]); first | done | rfl | (simp only [List.length_drop, List.length_take]; rfl)) ?_; (with_reducible refine (strconv_Itoa.calls (rd l1 x9_1) t105 _ ?side1 A6.out).mono ?_); (case side1 => exact Glob.below hGA.out (by repeat (first | (with_reducible first | exact HB.out | apply below_alloc | apply pw_below_drewN | apply below_drew1) | exact HB.out))); rintro e w8 ⟨rfl, hb⟩; refine ⟨_, rfl, ?_⟩; have n0_ := Aside0.mk (Kd.R_below (by (with_reducible repeat (first | apply Kd.R_alloc | apply Kd.R_drewN | apply Kd.R_drew)); exact HO_0.out) hb); have n1_ := Aside0.mk (Kept.below (S := (fun k_ => P0_ k_)) (by repeat (first | (with_reducible first | exact HK.out | apply Kept.alloc | apply Kept.drewN | apply Kept.drew) | exact HK.out)) hb); have n2_ := Aside0.mk (below_step (by repeat (first | (with_reducible first | exact HB.out | apply below_alloc | apply pw_below_drewN | apply below_drew1) | exact HB.out)) hb); clear HO_0; clear HK; clear HB; have HO_0 := n0_; have HK := n1_; have HB := n2_; clear n0_ n1_ n2_; (try clear hb); (try clear hb2); (try clear hk); (try clear hi)) | ((with_reducible refine gate_builtin (b := .append) (xs := #[.tmp 13, .tmp 16]) rfl ?_); at_builtin; refine Kd.R_append Kd.string (w0 := w0) w0.heap.size rfl (.tmp 13) (.tmp 16) 47 9 (.string ⟨#[]⟩) 16 rfl Tryd.underlying47 info9 rfl (by decide) (by omega) u0 x0_1 t105 [.string t105] (fun k_ => (P0_ k_ ∨ w.heap.size ≤ k_)) (fun _ => False) rfl rfl ?aP (fun _ hk => hk.elim) ?aF ?aO ?aB ?aS ?aL ?_; (case aP => exact rfl); (case aB => exact (by repeat (first | (with_reducible first | exact HB.out | apply below_alloc | apply pw_below_drewN | apply below_drew1) | exact HB.out))); (case aF => exact (fun k_ hk => (.inr (Nat.le_trans (by first | exact HK.out.1 | exact (show Kept w _ (fun k_ => P0_ k_) from by repeat (first | (with_reducible first | exact HK.out | apply Kept.alloc | apply Kept.drewN | apply Kept.drew) | exact HK.out)).1) hk)))); (case aO => exact (by (with_reducible repeat (first | apply Kd.R_alloc | apply Kd.R_drewN | apply Kd.R_drew)); exact HO_0.out)); (case aS => exact (below_size (by repeat (first | (with_reducible first | exact HB.out | apply below_alloc | apply pw_below_drewN | apply below_drew1) | exact HB.out)))); (case aL => have := LMc7.out; omega); intro v107 w9 ho hb hg hat; rw [← Ny106.out] at ho; have n0_ := Aside0.mk (hb); have n1_ := Aside0.mk (Kept.of_grown (S := (fun k_ => P0_ k_)) hg (by repeat (first | (with_reducible first | exact HK.out | apply Kept.alloc | apply Kept.drewN | apply Kept.drew) | exact HK.out)) (fun k_ e_ => (HO_0.out.1 k_ e_))); have n2_ := Aside0.mk (ho); clear HB; clear HK; clear HO_0; have HB := n0_; have HK := n1_; have HO108 := n2_; clear n0_ n1_ n2_; clear ho hb hg hat))
              go_roundg k1
              case measure => have := HK1.out; omega
              case rel => exact ⟨(y106), (wrap64 (x9_1 + 1)), (by first | rfl | (simp; done) | (simp [*]; done)), H', ⟨by have := HK1.out; omega⟩, ⟨by (with_reducible repeat (first | apply Kd.R_alloc | apply Kd.R_drewN | apply Kd.R_drew)); exact HO108.out⟩, ⟨by repeat (first | (with_reducible first | exact HK.out | apply Kept.alloc | apply Kept.drewN | apply Kept.drew) | exact HK.out)⟩, ⟨by repeat (first | (with_reducible first | exact HB.out | apply below_alloc | apply pw_below_drewN | apply below_drew1) | exact HB.out)⟩⟩
            · rw [if_neg c7] at H
              exact absurd H (by simp)
          · rw [if_neg c5] at H
            exact absurd H (by simp)
        · rw [if_neg c4] at H
          exact absurd H (by simp)
      · rw [if_neg c3] at H
        have c3b0 : decide (x9_1 < (l1.length : Int)) = false := decide_eq_false c3
        clear c3
        replace H := Option.bind_eq_some_iff.mp H
        obtain ⟨t109, A100, H⟩ := H
        replace H : (if t109.size + 1 ≤ 9223372036854775807 then (some (t109 ++ (⟨#[10]⟩ : ByteArray))) else (none)) = some r := H
        have A10 := Aside0.mk A100
        clear A100
        by_cases c11 : t109.size + 1 ≤ 9223372036854775807
        · rw [if_pos c11] at H
          have c11b0 := eq_true c11
          have c11b1 : decide (t109.size + 1 ≤ 9223372036854775807) = true := decide_eq_true c11
          try have c11b2 : (9223372036854775807 < t109.size + 1) = False := eq_false (Nat.not_lt.2 c11)
          obtain rfl := Option.some.inj H
          obtain ⟨Ao12, co12, eo12⟩ := Kd.R_slice HO_0.out
          subst eo12
          go_wp2_with (first | ((with_reducible refine gate_callee (f := 32) rfl ?_); refine goesL_ (some 20) rfl rfl Tryd.func32 (by kernel_rfl) rfl #[.slice Ao12 x0_1.length co12, .string (⟨#[32]⟩ : ByteArray)] rfl (by (try simp only [List.map_toArray, List.map_cons, List.map_nil]); first | done | rfl | (simp only [List.length_drop, List.length_take]; rfl)) ?_; (with_reducible refine (strings_Join.calls _ _ x0_1 (⟨#[32]⟩ : ByteArray) t109 _ ?side1 ?side2 A10.out).mono ?_); (case side1 => repeat (first | exact (Kd.R_reads' HO_0.out).2.2 | (with_reducible refine Kd.C_alloc ?_ _) | (with_reducible refine Kd.C_drewN ?_ _) | (with_reducible refine Kd.C_drew ?_))); (case side2 => exact (Kd.R_reads' HO_0.out).2.1); rintro e w13 ⟨rfl, hb⟩; refine ⟨_, rfl, ?_⟩; have n0_ := Aside0.mk (Kd.R_below (by (with_reducible repeat (first | apply Kd.R_alloc | apply Kd.R_drewN | apply Kd.R_drew)); exact HO_0.out) hb); have n1_ := Aside0.mk (Kept.below (S := (fun k_ => P0_ k_)) (by repeat (first | (with_reducible first | exact HK.out | apply Kept.alloc | apply Kept.drewN | apply Kept.drew) | exact HK.out)) hb); have n2_ := Aside0.mk (below_step (by repeat (first | (with_reducible first | exact HB.out | apply below_alloc | apply pw_below_drewN | apply below_drew1) | exact HB.out)) hb); clear HO_0; clear HK; clear HB; have HO_0 := n0_; have HK := n1_; have HB := n2_; clear n0_ n1_ n2_; (try clear hb); (try clear hb2); (try clear hk); (try clear hi)))
          go_ret
          exact ⟨by first | rfl | (simp [errW_none, errW_some] <;> rfl) | (simp [*, errW_none, errW_some] <;> rfl), by repeat (first | (with_reducible first | exact HB.out | apply below_alloc | apply pw_below_drewN | apply below_drew1) | exact HB.out), by repeat (first | (with_reducible first | exact HK.out | apply Kept.alloc | apply Kept.drewN | apply Kept.drew) | exact HK.out)⟩
        · rw [if_neg c11] at H
          exact absurd H (by simp)

end Go.Proofs.YtmgabnodachboaaDoor.P

/- Oadler -/
namespace Go.Proofs.YtmgabnodachboaaDoor.O
open Go.RowKit Go.Proofs.YtmgabnodachboaaDoorW.PrintWords Go.Proofs.YtmgabnodachboaaDoorW.PrintLast Go.Proofs.YtmgabnodachboaaDoorW.PrintMore
set_option linter.unusedVariables false
set_option linter.unusedSimpArgs false

/-- The two numbers of the first k bytes. -/
def adS (s : ByteArray) : Nat → Int × Int
  | 0 => (1, 0)
  | k + 1 => (((adS s k).1 + bt s k) % 65521, ((adS s k).2 + ((adS s k).1 + bt s k) % 65521) % 65521)
theorem adS_bd (s : ByteArray) (k : Nat) : 0 ≤ (adS s k).1 ∧ (adS s k).1 < 65521 ∧ 0 ≤ (adS s k).2 ∧ (adS s k).2 < 65521 := by
  cases k with
  | zero => simp [adS]
  | succ k => simp only [adS]; omega
def adler_Sum.f (a0 : ByteArray) : Option Int := if a0.size ≤ 9223372036854775807 then some ((adS a0 a0.size).2 * 65536 + (adS a0 a0.size).1) else none
theorem ad_or (a b : Int) (ha : 0 ≤ a) (ha' : a < 65521) (hb : 0 ≤ b) (hb' : b < 65521) : Go.bits .or .u32 (b * 65536 % 4294967296) a = b * 65536 + a := by
  rw [show b * 65536 % 4294967296 = b * 65536 from by omega]
  exact bits_join .u32 32 (by decide) (fun n h0 h1 => by rw [IntKind.wrap_u32]; omega) 16 _ _ (by omega) (by omega) (by omega) ha (by omega) (by omega)
theorem ad_or' (a b : Int) (ha : 0 ≤ a) (ha' : a < 65521) (hb : 0 ≤ b) (hb' : b < 65521) : Go.bits .or .u32 (b * 65536) a = b * 65536 + a := by
  have := ad_or a b ha ha' hb hb'
  rwa [show b * 65536 % 4294967296 = b * 65536 from by omega] at this
theorem ret_intA {k : IntKind} {a b : Int} (h : a = b) : Ending.returned (.int k a) = .returned (.int k b) := by rw [h]
theorem below_bytesA (w : World) (e : TypeId) (s : ByteArray) : Below w.heap.size w (Lib.bytesWorld w e s) :=
  ⟨rfl, rfl, rfl, by rw [Lib.bytesWorld_size]; omega, fun i hi => Lib.bytesWorld_at_old w e s i hi⟩
theorem bt_getDA (s : ByteArray) (k : Nat) (h : k < s.size) : ((s.data.toList.getD k 0).toNat : Int) = bt s k := by
  unfold bt
  have h2 : k < s.data.size := h
  simp [h, List.getD_eq_getElem?_getD, h2]
  rfl

set_option maxHeartbeats 1000000 in
theorem adler_Sum.calls (a0 : ByteArray) (r : Int) (w : World) (h : adler_Sum.f a0 = some r) :
    Calls Tryd.prog 19 #[.string a0] w fun e w' => e = .returned (.int .i64 r) ∧ Below w.heap.size w w' := by
  unfold adler_Sum.f at h
  split at h
  case isFalse => exact absurd h (by simp)
  rename_i hsz
  obtain rfl := Option.some.inj h
  clear h
  have hconv := Lib.run_convert_string_bytes (P := Tryd.prog) w 9 34 5 a0 Tryd.underlying9 Tryd.underlying34 Tryd.underlying5
  have hb := Lib.hid (below_bytesA w 5 a0)
  have hcell := Lib.hid (fun j hj => Lib.bytesWorld_cell w 5 a0 j hj)
  generalize Lib.bytesWorld w 5 a0 = w1 at *
  generalize grownCap w a0.size 0 5 = cap at *
  go_enter Tryd.func19, Tryd.ntmps19
  go_wp2
  go_loop [3, 4, 10] (fun a b i => ∃ k : Nat, k ≤ a0.size ∧ i = .int .i64 k ∧ a = .int .u32 (adS a0 k).1 ∧ b = .int .u32 (adS a0 k).2) (fun _ _ i => a0.size - (intOf i).toNat)
  case atStart => exact ⟨0, Nat.zero_le _, rfl, rfl, rfl⟩
  case round =>
    obtain ⟨k, hk, rfl, rfl, rfl⟩ := hrel
    obtain ⟨h1, h2, h3, h4⟩ := adS_bd a0 k
    by_cases hlt : k < a0.size
    · have hc : w1.cell? ⟨w.heap.size, k, none⟩ = some (.int .u8 (bt a0 k)) := by rw [hcell.out k hlt, bt_getDA a0 k hlt]
      obtain ⟨q1, q2⟩ := bt_range a0 k
      have HS : Hid (adS a0 (k + 1) = (((adS a0 k).1 + bt a0 k) % 65521, ((adS a0 k).2 + ((adS a0 k).1 + bt a0 k) % 65521) % 65521)) := Lib.hid rfl
      generalize bt a0 k = c at *
      generalize (adS a0 k).1 = p at *
      generalize (adS a0 k).2 = q at *
      go_wp2
      go_round
      case rel => exact ⟨k + 1, by omega, by go_num, by rw [HS.out], by rw [HS.out]⟩
      case measure => simp [intOf]; omega
    · obtain rfl : k = a0.size := by omega
      have HO := Lib.hid (ad_or _ _ h1 h2 h3 h4)
      have HO' := Lib.hid (ad_or' _ _ h1 h2 h3 h4)
      have HW := Lib.hid (show wrap64 ((adS a0 a0.size).2 * 65536 + (adS a0 a0.size).1) = (adS a0 a0.size).2 * 65536 + (adS a0 a0.size).1 from by unfold wrap64; omega)
      go_wp2
      go_ret
      exact ⟨ret_intA (by first | (simp only [HO.out, HW.out]; done) | (simp only [HO'.out, HW.out]; done) | (show wrap64 _ = _; first | rw [HO.out, HW.out] | rw [HO'.out, HW.out])), hb.out⟩
end Go.Proofs.YtmgabnodachboaaDoor.O

/- Obld -/
namespace Go.Proofs.YtmgabnodachboaaDoor.O
open Go.RowKit Go.Proofs.YtmgabnodachboaaDoorW.PrintWords Go.Proofs.YtmgabnodachboaaDoorW.PrintLast Go.Proofs.YtmgabnodachboaaDoorW.PrintMore Go.Proofs.YtmgabnodachboaaDoor.P Go.Proofs.YtmgabnodachboaaDoor.B
set_option linter.unusedVariables false
set_option linter.unusedSimpArgs false

theorem cells_len (s : ByteArray) : (Lib.byteCells s.data.toList).length = s.size := by rw [Lib.byteCells_length, data_length]
theorem cells_append (s t : ByteArray) : Lib.byteCells s.data.toList ++ Lib.strCells t = Lib.byteCells (s ++ t).data.toList := by
  simp [Lib.byteCells, Lib.strCells, ByteArray.data_append]
def Builder_WriteString.f (s0 a1 : ByteArray) : Option (Int × Option Int × ByteArray) := if s0.size + a1.size ≤ 140737488355328 then some ((a1.size : Int), none, s0 ++ a1) else none
theorem Builder_WriteString.calls (g : Nat) (s0_0 : ByteArray) (a1 : ByteArray) (r1 : Int) (r2 : Option Int) (r3 : ByteArray) (w0 w : World) (hI : IsS41 w0 w g s0_0) (hB : Below w0.heap.size w0 w) (h : Builder_WriteString.f s0_0 a1 = some (r1, r2, r3)) :
    Calls Tryd.prog 15 #[.pointer (some ⟨g, 0, none⟩), .string a1] w fun e w' => e = .returned (.tuple #[.int .i64 r1, errW r2]) ∧ IsS41 w0 w' g r3 ∧ Below w0.heap.size w0 w' ∧ KeepB 5 w w' g := by
  unfold Builder_WriteString.f at h
  split at h
  case isFalse => exact absurd h (by simp)
  rename_i hb
  obtain ⟨rfl, rfl, rfl⟩ : (a1.size : Int) = r1 ∧ none = r2 ∧ s0_0 ++ a1 = r3 := by simpa using h
  refine (Tryd.Builder_WriteString_k w0.heap.size g _ a1 w hI (by rw [cells_len]; exact hb) hB.size).mono ?_
  rintro e w' ⟨rfl, h1, h2, h3⟩
  rw [cells_append] at h1
  exact ⟨rfl, .inr h1, hB.trans h2, ⟨h3⟩⟩
def Builder_String.f (s0 : ByteArray) : Option (ByteArray × ByteArray) := some (s0, s0)
theorem Builder_String.calls (g : Nat) (s0_0 : ByteArray) (r1 : ByteArray) (r2 : ByteArray) (w0 w : World) (hI : IsS41 w0 w g s0_0) (hB : Below w0.heap.size w0 w) (h : Builder_String.f s0_0 = some (r1, r2)) :
    Calls Tryd.prog 18 #[.pointer (some ⟨g, 0, none⟩)] w fun e w' => e = .returned (.string r1) ∧ IsS41 w0 w' g r2 ∧ Below w0.heap.size w0 w' ∧ KeepB 5 w w' g := by
  obtain ⟨rfl, rfl⟩ : s0_0 = r1 ∧ s0_0 = r2 := by simpa [Builder_String.f] using h
  refine (Tryd.Builder_String_any_k w0.heap.size g s0_0.data.toList w hI hB.size).mono ?_
  rintro e w' ⟨rfl, h1, h2, h3⟩
  exact ⟨rfl, h1, hB.trans h2, ⟨h3⟩⟩
end Go.Proofs.YtmgabnodachboaaDoor.O

/- Oman -/
namespace Go.Proofs.YtmgabnodachboaaDoor.O
open Go.RowKit Go.Proofs.YtmgabnodachboaaDoorW.PrintWords Go.Proofs.YtmgabnodachboaaDoorW.PrintLast Go.Proofs.YtmgabnodachboaaDoorW.PrintMore
set_option linter.unusedVariables false
set_option linter.unusedSimpArgs false

/-- Is a rune none of a name's? -/
def oddP (x : Nat) : Bool := !(decide (48 ≤ x) && decide (x ≤ 57) || decide (97 ≤ x) && decide (x ≤ 122) || x == 46 || x == 45)
theorem odd_pred (w : World) : PredAt Tryd.prog 33 #[] encR oddP w := fun W x _ => by
  unfold FnGives
  have z : ∀ (q : Bool), oddP x = q → Calls Tryd.prog 33 #[.int .i32 (x : Int)] W fun e w' => e = .returned (.bool q) ∧ ∃ m, w' = W.drewN m := by
    intro q hq
    by_cases h1 : (48 : Int) ≤ x <;> by_cases h2 : (x : Int) ≤ 57 <;> by_cases h3 : (97 : Int) ≤ x <;> by_cases h4 : (x : Int) ≤ 122 <;> by_cases h5 : (x : Int) = 46 <;> by_cases h6 : (x : Int) = 45
    all_goals first | (exfalso; omega) | skip
    all_goals
      have e1 : oddP x = !(decide ((48 : Int) ≤ x) && decide ((x : Int) ≤ 57) || decide ((97 : Int) ≤ x) && decide ((x : Int) ≤ 122) || ((x : Int) == 46) || ((x : Int) == 45)) := by
        unfold oddP
        congr 1
        rw [show decide (48 ≤ x) = decide ((48 : Int) ≤ x) from by congr 1; exact propext (by omega), show decide (x ≤ 57) = decide ((x : Int) ≤ 57) from by congr 1; exact propext (by omega), show decide (97 ≤ x) = decide ((97 : Int) ≤ x) from by congr 1; exact propext (by omega), show decide (x ≤ 122) = decide ((x : Int) ≤ 122) from by congr 1; exact propext (by omega), show (x == 46) = ((x : Int) == 46) from by rw [Bool.eq_iff_iff]; simp; omega, show (x == 45) = ((x : Int) == 45) from by rw [Bool.eq_iff_iff]; simp; omega]
      have e2 := Lib.hid (e1.symm.trans hq)
      clear e1 hq
      go_enter Tryd.func33, Tryd.ntmps33
      go_wp2
      go_ret
      refine ⟨ret_bool ?_, 0, rfl⟩
      rw [← e2.out]
      first | (simp [h1, h2, h3, h4, h5, h6]; done) | (rw [Bool.eq_iff_iff]; simp; omega)
  exact z _ rfl
def manifest_name.f (a0 : ByteArray) : Option Bool := some (if a0.size = 0 then false else if 32 < a0.size then false else !(decide (0 ≤ Lib.idxFunc oddP true a0)))
theorem manifest_name.calls (a0 : ByteArray) (r : Bool) (w : World) (h : manifest_name.f a0 = some r) :
    Calls Tryd.prog 17 #[.string a0] w fun e w' => e = .returned (.bool r) ∧ Below w.heap.size w w' := by
  obtain rfl := Option.some.inj h
  clear h
  have hC := Tryd.strings_ContainsFunc 33 #[] (enters_of Tryd.func33 (by kernel_rfl) rfl) oddP a0 w (odd_pred w)
  have HC := Lib.hid hC
  clear hC
  by_cases h0 : a0.size = 0
  · obtain rfl : a0 = ByteArray.empty := ByteArray.size_eq_zero_iff.1 h0
    rw [if_pos h0]
    clear HC
    go_enter Tryd.func17, Tryd.ntmps17
    go_wp2
    go_ret
    exact ⟨rfl, Below.refl _ _⟩
  · rw [if_neg h0]
    have hne : a0.toList ≠ [] := by
      intro h
      apply h0
      have h2 := congrArg List.length h
      rw [ByteArray.toList_eq, data_length] at h2
      simpa using h2
    have hb0 : (a0.toList == []) = false := by simpa using hne
    have hb1 : (a0.toList != []) = true := by simpa using hne
    by_cases h1 : 32 < a0.size
    · rw [if_pos h1]
      have h1' : ¬ ((a0.size : Int) ≤ 32) := by omega
      have h1b : decide ((a0.size : Int) ≤ 32) = false := decide_eq_false h1'
      have h1c : decide (a0.size ≤ 32) = false := decide_eq_false (by omega)
      clear HC h0
      go_enter Tryd.func17, Tryd.ntmps17
      go_wp2
      go_ret
      exact ⟨rfl, Below.refl _ _⟩
    · rw [if_neg h1]
      have h1' : (a0.size : Int) ≤ 32 := by omega
      have h1b : decide ((a0.size : Int) ≤ 32) = true := decide_eq_true h1'
      have h1c : decide (a0.size ≤ 32) = true := decide_eq_true (by omega)
      clear h0
      generalize decide (0 ≤ Lib.idxFunc oddP true a0) = q at *
      go_enter Tryd.func17, Tryd.ntmps17
      go_wp2_with (go_at_call 34; refine HC.out.mono ?_; rintro e w' ⟨rfl, hb⟩)
      go_ret
      exact ⟨rfl, hb⟩
end Go.Proofs.YtmgabnodachboaaDoor.O

/- Px5 -/
namespace Go.Proofs.YtmgabnodachboaaDoor.P
open Go.Proofs.YtmgabnodachboaaDoor.B
open Go.RowKit Go.Proofs.YtmgabnodachboaaDoorW.PrintWords Go.Proofs.YtmgabnodachboaaDoorW.PrintLast Go.Proofs.YtmgabnodachboaaDoorW.PrintMore
attribute [local go_sem] str_leq str_gtr str_geq max2_int min2_int max_two min_two max_three min_three max_four min_four   -- for this text's walks alone
set_option linter.unusedVariables false
set_option linter.unusedSimpArgs false

open Go.Proofs.YtmgabnodachboaaDoor.O
/-! ### manifest_Print: function 9 -/
mutual
def manifest_Print.l0 : Nat → ByteArray → List (S37) → Int → Int → ByteArray → Option (ByteArray × Int)
  | 0, _, _, _, _, _ => none
  | k + 1, x7, x19, x20, x21, x115000 => if x21 < x20 then (if 0 ≤ x21 then (if x21 < (x19.length : Int) then ((manifest_name.f ((rd_T37 x19 x21).f0)).bind fun t127 => (if t127 = true then ((manifest_name.f ((rd_T37 x19 x21).f1)).bind fun t128 => (if t128 = true then ((manifest_near.f k (([(rd_T37 x19 x21).f2, (rd_T37 x19 x21).f3] : List Int))).bind fun t132 => (if t132 = true then (manifest_Print.j1 k x19 x20 x21 (!(Op.bytesLess x7.toList (((rd_T37 x19 x21).f0).toList))) x115000 ((rd_T37 x19 x21).f0) ((rd_T37 x19 x21).f1) ((rd_T37 x19 x21).f2) ((rd_T37 x19 x21).f3)) else (manifest_Print.j1 k x19 x20 x21 true x115000 ((rd_T37 x19 x21).f0) ((rd_T37 x19 x21).f1) ((rd_T37 x19 x21).f2) ((rd_T37 x19 x21).f3)))) else (manifest_Print.j1 k x19 x20 x21 true x115000 ((rd_T37 x19 x21).f0) ((rd_T37 x19 x21).f1) ((rd_T37 x19 x21).f2) ((rd_T37 x19 x21).f3)))) else (manifest_Print.j1 k x19 x20 x21 true x115000 ((rd_T37 x19 x21).f0) ((rd_T37 x19 x21).f1) ((rd_T37 x19 x21).f2) ((rd_T37 x19 x21).f3)))) else (none)) else (none)) else ((Builder_String.f x115000).bind fun bt143 => ((Builder_String.f bt143.2).bind fun bt148 => ((adler_Sum.f bt148.1).bind fun t150 => ((manifest_line.f k (([(⟨#[115, 117, 109]⟩ : ByteArray)] : List ByteArray)) (([t150] : List Int))).bind fun t154 => (if bt143.1.size + t154.size ≤ 9223372036854775807 then (some (bt143.1 ++ t154, 0)) else (none))))))
def manifest_Print.j1 : Nat → List (S37) → Int → Int → Bool → ByteArray → ByteArray → ByteArray → Int → Int → Option (ByteArray × Int)
  | 0, _, _, _, _, _, _, _, _, _ => none
  | k + 1, x19, x20, x21, x49, x115000, x127000, x127001, x127002, x127003 => if x49 = true then (some ((⟨#[]⟩ : ByteArray), 30)) else ((manifest_line.f k (([x127000, x127001] : List ByteArray)) (([x127002, x127003] : List Int))).bind fun t139 => ((Builder_WriteString.f x115000 t139).bind fun bt140 => (manifest_Print.l0 k x127000 x19 x20 (wrap64 (x21 + 1)) bt140.2.2)))
end
def manifest_Print.f (k : Nat) (a0 : Int) (l1 : List (S37)) : Option (ByteArray × Int) := (manifest_near.f k (([a0] : List Int))).bind fun t113 => (if t113 = true then ((manifest_line.f k (([(⟨#[103, 101, 110, 101, 114, 97, 116, 105, 111, 110]⟩ : ByteArray)] : List ByteArray)) (([a0] : List Int))).bind fun t121 => ((Builder_WriteString.f (⟨#[]⟩ : ByteArray) t121).bind fun bt122 => (manifest_Print.l0 k (⟨#[]⟩ : ByteArray) l1 (l1.length : Int) 0 bt122.2.2))) else (some ((⟨#[]⟩ : ByteArray), 30)))
theorem manifest_Print.mono_l : ∀ k, (∀ y0 y1 y2 y3 y4, LeO (manifest_Print.l0 k y0 y1 y2 y3 y4) (manifest_Print.l0 (k + 1) y0 y1 y2 y3 y4)) ∧ (∀ y0 y1 y2 y3 y4 y5 y6 y7 y8, LeO (manifest_Print.j1 k y0 y1 y2 y3 y4 y5 y6 y7 y8) (manifest_Print.j1 (k + 1) y0 y1 y2 y3 y4 y5 y6 y7 y8))
  | 0 => ⟨fun _ _ _ _ _ r h => by simp [manifest_Print.l0] at h, fun _ _ _ _ _ _ _ _ _ r h => by simp [manifest_Print.j1] at h⟩
  | k + 1 => by
    obtain ⟨ih0, ih1⟩ := manifest_Print.mono_l k
    refine ⟨?_, ?_⟩
    · intro y0 y1 y2 y3 y4
      unfold manifest_Print.l0
      repeat' first
      | (with_reducible exact ih0 _ _ _ _ _)
      | (with_reducible exact ih1 _ _ _ _ _ _ _ _ _)
      | (with_reducible exact manifest_line.mono _ _ _)
      | (with_reducible exact manifest_near.mono _ _)
      | (with_reducible exact LeO.refl _)
      | (with_reducible exact LeO.none _)
      | (with_reducible refine LeO.ite ?_ ?_)
      | (with_reducible refine LeO.bind ?_ (fun _ => ?_))
      | exact ih0 _ _ _ _ _
      | exact ih1 _ _ _ _ _ _ _ _ _
      | exact manifest_line.mono _ _ _
      | exact manifest_near.mono _ _
      | exact LeO.none _
      | refine LeO.ite ?_ ?_
      | refine LeO.bind ?_ (fun _ => ?_)
    · intro y0 y1 y2 y3 y4 y5 y6 y7 y8
      unfold manifest_Print.j1
      repeat' first
      | (with_reducible exact ih0 _ _ _ _ _)
      | (with_reducible exact ih1 _ _ _ _ _ _ _ _ _)
      | (with_reducible exact manifest_line.mono _ _ _)
      | (with_reducible exact manifest_near.mono _ _)
      | (with_reducible exact LeO.refl _)
      | (with_reducible exact LeO.none _)
      | (with_reducible refine LeO.ite ?_ ?_)
      | (with_reducible refine LeO.bind ?_ (fun _ => ?_))
      | exact ih0 _ _ _ _ _
      | exact ih1 _ _ _ _ _ _ _ _ _
      | exact manifest_line.mono _ _ _
      | exact manifest_near.mono _ _
      | exact LeO.none _
      | refine LeO.ite ?_ ?_
      | refine LeO.bind ?_ (fun _ => ?_)
theorem manifest_Print.mono : ∀ a0 a1 k, LeO (manifest_Print.f k a0 a1) (manifest_Print.f (k + 1) a0 a1) := by
  intro a0 a1 k
  obtain ⟨ih0, ih1⟩ := manifest_Print.mono_l k
  unfold manifest_Print.f
  repeat' first
      | (with_reducible exact ih0 _ _ _ _ _)
      | (with_reducible exact ih1 _ _ _ _ _ _ _ _ _)
      | (with_reducible exact manifest_line.mono _ _ _)
      | (with_reducible exact manifest_near.mono _ _)
      | (with_reducible exact LeO.refl _)
      | (with_reducible exact LeO.none _)
      | (with_reducible refine LeO.ite ?_ ?_)
      | (with_reducible refine LeO.bind ?_ (fun _ => ?_))
      | exact ih0 _ _ _ _ _
      | exact ih1 _ _ _ _ _ _ _ _ _
      | exact manifest_line.mono _ _ _
      | exact manifest_near.mono _ _
      | exact LeO.none _
      | refine LeO.ite ?_ ?_
      | refine LeO.bind ?_ (fun _ => ?_)
set_option maxHeartbeats 8000000 in
set_option maxRecDepth 100000 in
theorem manifest_Print.calls (k : Nat) (a0 : Int) (A1 : Option Addr) (c1 : Nat) (l1 : List (S37)) (r1 : ByteArray) (r2 : Int) (w : World) (hr1 : Kd.C k37 w A1 l1.length l1) (hc1 : l1.length ≤ c1) (hG : Glob w) (h : manifest_Print.f k a0 l1 = some (r1, r2)) :
    Calls Tryd.prog 9 #[.int .i64 a0, .slice A1 l1.length c1] w fun e w' => e = .returned (.tuple #[.string r1, .int .i64 r2]) ∧ Below w.heap.size w w' := by
  have hu41 := Tryd.underlying41
  have hu37 := Tryd.underlying37
  have HR1 := Aside0.mk hr1
  have HC1 := Aside0.mk hc1
  clear hr1 hc1
  have HB := Aside0.mk (Below.refl w.heap.size w)
  have hGA := Aside0.mk hG
  clear hG
  have H : ((manifest_near.f k (([a0] : List Int))).bind fun t113 => (if t113 = true then ((manifest_line.f k (([(⟨#[103, 101, 110, 101, 114, 97, 116, 105, 111, 110]⟩ : ByteArray)] : List ByteArray)) (([a0] : List Int))).bind fun t121 => ((Builder_WriteString.f (⟨#[]⟩ : ByteArray) t121).bind fun bt122 => (manifest_Print.l0 k (⟨#[]⟩ : ByteArray) l1 (l1.length : Int) 0 bt122.2.2))) else (some ((⟨#[]⟩ : ByteArray), 30)))) = some (r1, r2) := h
  clear h
  obtain ⟨y110, hy110⟩ : ∃ y_ : List Int, y_ = (([a0] : List Int)) := ⟨_, rfl⟩
  replace H : ((manifest_near.f k y110).bind fun t113 => (if t113 = true then ((manifest_line.f k (([(⟨#[103, 101, 110, 101, 114, 97, 116, 105, 111, 110]⟩ : ByteArray)] : List ByteArray)) (([a0] : List Int))).bind fun t121 => ((Builder_WriteString.f (⟨#[]⟩ : ByteArray) t121).bind fun bt122 => (manifest_Print.l0 k (⟨#[]⟩ : ByteArray) l1 (l1.length : Int) 0 bt122.2.2))) else (some ((⟨#[]⟩ : ByteArray), 30)))) = some (r1, r2) := by first | (rw [hy110]; with_reducible exact H) | (have H2_ := (Option.bind_some _ _).symm.trans H; rw [hy110]; with_reducible exact H2_) | (have H2_ := (Option.bind_some _ _).symm.trans H; with_reducible exact H2_) | with_reducible exact H | (rw [hy110]; exact H) | exact H
  have Ny110 := Aside0.mk hy110
  clear hy110
  replace H := Option.bind_eq_some_iff.mp H
  obtain ⟨t113, A30, H⟩ := H
  replace H : (if t113 = true then ((manifest_line.f k (([(⟨#[103, 101, 110, 101, 114, 97, 116, 105, 111, 110]⟩ : ByteArray)] : List ByteArray)) (([a0] : List Int))).bind fun t121 => ((Builder_WriteString.f (⟨#[]⟩ : ByteArray) t121).bind fun bt122 => (manifest_Print.l0 k (⟨#[]⟩ : ByteArray) l1 (l1.length : Int) 0 bt122.2.2))) else (some ((⟨#[]⟩ : ByteArray), 30))) = some (r1, r2) := H
  have A3 := Aside0.mk A30
  clear A30
  by_cases c4 : t113 = true
  · subst c4
    have H1 : ((manifest_line.f k (([(⟨#[103, 101, 110, 101, 114, 97, 116, 105, 111, 110]⟩ : ByteArray)] : List ByteArray)) (([a0] : List Int))).bind fun t121 => ((Builder_WriteString.f (⟨#[]⟩ : ByteArray) t121).bind fun bt122 => (manifest_Print.l0 k (⟨#[]⟩ : ByteArray) l1 (l1.length : Int) 0 bt122.2.2))) = some (r1, r2) := by rw [if_pos rfl] at H; exact H
    clear H
    have H := H1
    clear H1
    obtain ⟨y115, hy115⟩ : ∃ y_ : List ByteArray, y_ = (([(⟨#[103, 101, 110, 101, 114, 97, 116, 105, 111, 110]⟩ : ByteArray)] : List ByteArray)) := ⟨_, rfl⟩
    replace H : ((manifest_line.f k y115 (([a0] : List Int))).bind fun t121 => ((Builder_WriteString.f (⟨#[]⟩ : ByteArray) t121).bind fun bt122 => (manifest_Print.l0 k (⟨#[]⟩ : ByteArray) l1 (l1.length : Int) 0 bt122.2.2))) = some (r1, r2) := by first | (rw [hy115]; with_reducible exact H) | (have H2_ := (Option.bind_some _ _).symm.trans H; rw [hy115]; with_reducible exact H2_) | (have H2_ := (Option.bind_some _ _).symm.trans H; with_reducible exact H2_) | with_reducible exact H | (rw [hy115]; exact H) | exact H
    have Ny115 := Aside0.mk hy115
    clear hy115
    obtain ⟨y118, hy118⟩ : ∃ y_ : List Int, y_ = (([a0] : List Int)) := ⟨_, rfl⟩
    replace H : ((manifest_line.f k y115 y118).bind fun t121 => ((Builder_WriteString.f (⟨#[]⟩ : ByteArray) t121).bind fun bt122 => (manifest_Print.l0 k (⟨#[]⟩ : ByteArray) l1 (l1.length : Int) 0 bt122.2.2))) = some (r1, r2) := by first | (rw [hy118]; with_reducible exact H) | (have H2_ := (Option.bind_some _ _).symm.trans H; rw [hy118]; with_reducible exact H2_) | (have H2_ := (Option.bind_some _ _).symm.trans H; with_reducible exact H2_) | with_reducible exact H | (rw [hy118]; exact H) | exact H
    have Ny118 := Aside0.mk hy118
    clear hy118
    replace H := Option.bind_eq_some_iff.mp H
    obtain ⟨t121, A50, H⟩ := H
    replace H : ((Builder_WriteString.f (⟨#[]⟩ : ByteArray) t121).bind fun bt122 => (manifest_Print.l0 k (⟨#[]⟩ : ByteArray) l1 (l1.length : Int) 0 bt122.2.2)) = some (r1, r2) := H
    have A5 := Aside0.mk A50
    clear A50
    replace H := Option.bind_eq_some_iff.mp H
    obtain ⟨⟨t122, t123, t124⟩, A60, H⟩ := H
    replace H : (manifest_Print.l0 k (⟨#[]⟩ : ByteArray) l1 (l1.length : Int) 0 t124) = some (r1, r2) := H
    have A6 := Aside0.mk A60
    clear A60
    have H' := Aside0.mk H
    clear H
    go_enter Tryd.func9, Tryd.ntmps9
    go_wp2_with (first | ((with_reducible refine gate_dst (N := 11) rfl ?_); (try (refine gate_guard (by rfl) ?_; dsimp only)); refine Kd.R_lit (Kd.int .i64) _ 3 ?hg (N := 11) ?hd (xs := ([a0] : List Int)) (inner := [.int .i64 a0]) (ok := fun _ => True) (okp := fun _ => True) ?hr ?hp (fun _ hk => hk) trivial (Below.refl _ _) (Nat.le_refl _) (by simp) ?_; (case hd => rfl); (case hg => rfl); (case hr => first | (go_simp; done) | (go_simp; rfl)); (case hp => exact (Reps.one (show Kd.M (Kd.int .i64) _ _ _ a0 [.int .i64 a0] from rfl) (Reps.none _ _))); intro v111 w7 ho8 hb hg_ hnew_; clear hg_ hnew_; (first | rw [← Ny110.out] at ho8 | (simp only [Int.reduceToNat] at ho8; rw [← Ny110.out] at ho8)); have n0_ := Aside0.mk (Kd.R_lower ho8 (below_size (by repeat (first | (with_reducible first | exact HB.out | apply below_alloc | apply pw_below_drewN | apply below_drew1) | exact HB.out)))); have n1_ := Aside0.mk (below_step (by repeat (first | (with_reducible first | exact HB.out | apply below_alloc | apply pw_below_drewN | apply below_drew1) | exact HB.out)) hb); clear HB; have HO112 := n0_; have HB := n1_; clear n0_ n1_; clear hb ho8; obtain ⟨Ao9, co9, eo9⟩ := Kd.R_slice HO112.out; subst eo9) | ((with_reducible refine gate_callee (f := 14) rfl ?_); refine goesL_ (some 12) rfl rfl Tryd.func14 (by kernel_rfl) rfl #[.slice Ao9 y110.length co9] rfl (by (try simp only [List.map_toArray, List.map_cons, List.map_nil]); first | done | rfl | (simp only [List.length_drop, List.length_take]; rfl)) ?_; (with_reducible refine (manifest_near.calls k _ _ y110 true _ ?side1 ?side2 A3.out).mono ?_); (case side1 => repeat (first | exact (Kd.R_reads' HO112.out).2.2 | (with_reducible refine Kd.C_alloc ?_ _) | (with_reducible refine Kd.C_drewN ?_ _) | (with_reducible refine Kd.C_drew ?_))); (case side2 => exact (Kd.R_reads' HO112.out).2.1); rintro e w' ⟨rfl, ⟨nd, rfl⟩⟩; refine ⟨_, rfl, ?_⟩) | ((with_reducible refine gate_dst (N := 6) rfl ?_); (try (refine gate_guard (by rfl) ?_; dsimp only)); refine box_event ?hg (N := 6) ?hd (cs := #[.pointer none, .slice none 0 0]) (t := 41) ?hr ?_; (case hd => rfl); (case hg => rfl); (case hr => first | (go_simp; done) | (go_simp; rfl)); intro gb114 hg w10 hbox hb; have n0_ := Aside0.mk (Kd.R_below (by (with_reducible repeat (first | apply Kd.R_alloc | apply Kd.R_drewN | apply Kd.R_drew)); exact HO112.out) hb); have n1_ := Aside0.mk (below_step (by repeat (first | (with_reducible first | exact HB.out | apply below_alloc | apply pw_below_drewN | apply below_drew1) | exact HB.out)) hb); have n2_ := Aside0.mk ((by rw [hg]; exact (below_size (by repeat (first | (with_reducible first | exact HB.out | apply below_alloc | apply pw_below_drewN | apply below_drew1) | exact HB.out))) : w.heap.size ≤ gb114)); have n3_ := Aside0.mk ((by rw [hg]; exact (below_size (by repeat (first | (with_reducible first | exact HB.out | apply below_alloc | apply pw_below_drewN | apply below_drew1) | exact HB.out))) : w.heap.size ≤ gb114)); have n4_ := Aside0.mk ((show IsS41 w w10 gb114 (⟨#[]⟩ : ByteArray) from IsS41.new hbox (by rw [hg]; exact (below_size (by repeat (first | (with_reducible first | exact HB.out | apply below_alloc | apply pw_below_drewN | apply below_drew1) | exact HB.out)))))); clear HO112; clear HB; have HO112 := n0_; have HB := n1_; have GW114 := n2_; have GE114 := n3_; have HI114 := n4_; clear n0_ n1_ n2_ n3_ n4_; clear hb hbox hg) | ((with_reducible refine gate_dst (N := 14) rfl ?_); (try (refine gate_guard (by rfl) ?_; dsimp only)); refine Kd.R_lit Kd.string _ 9 ?hg (N := 14) ?hd (xs := ([(⟨#[103, 101, 110, 101, 114, 97, 116, 105, 111, 110]⟩ : ByteArray)] : List ByteArray)) (inner := [.string (⟨#[103, 101, 110, 101, 114, 97, 116, 105, 111, 110]⟩ : ByteArray)]) (ok := fun _ => True) (okp := fun _ => True) ?hr ?hp (fun _ hk => hk) trivial (Below.refl _ _) (Nat.le_refl _) (by simp) ?_; (case hd => rfl); (case hg => rfl); (case hr => first | (go_simp; done) | (go_simp; rfl)); (case hp => exact (Reps.one (show Kd.M Kd.string _ _ _ (⟨#[103, 101, 110, 101, 114, 97, 116, 105, 111, 110]⟩ : ByteArray) [.string (⟨#[103, 101, 110, 101, 114, 97, 116, 105, 111, 110]⟩ : ByteArray)] from rfl) (Reps.none _ _))); intro v116 w11 ho12 hb hg_ hnew_; clear hg_ hnew_; (first | rw [← Ny115.out] at ho12 | (simp only [Int.reduceToNat] at ho12; rw [← Ny115.out] at ho12)); have n0_ := Aside0.mk (Kd.R_below (by (with_reducible repeat (first | apply Kd.R_alloc | apply Kd.R_drewN | apply Kd.R_drew)); exact HO112.out) hb); have n1_ := Aside0.mk (Kd.R_lower ho12 (below_size (by repeat (first | (with_reducible first | exact HB.out | apply below_alloc | apply pw_below_drewN | apply below_drew1 | refine below_set ?_ (IsS41.ge HI114.out)) | exact HB.out)))); have n2_ := Aside0.mk (IsS41.below (by repeat (first | (with_reducible first | exact HI114.out | apply IsS41.alloc | apply IsS41.drewN | apply IsS41.drew) | exact HI114.out)) hb); have n3_ := Aside0.mk (below_step (by repeat (first | (with_reducible first | exact HB.out | apply below_alloc | apply pw_below_drewN | apply below_drew1 | refine below_set ?_ (IsS41.ge HI114.out)) | exact HB.out)) hb); clear HO112; clear HI114; clear HB; have HO112 := n0_; have HO117 := n1_; have HI114 := n2_; have HB := n3_; clear n0_ n1_ n2_ n3_; clear hb ho12) | ((with_reducible refine gate_dst (N := 16) rfl ?_); (try (refine gate_guard (by rfl) ?_; dsimp only)); refine Kd.R_lit (Kd.int .i64) _ 3 ?hg (N := 16) ?hd (xs := ([a0] : List Int)) (inner := [.int .i64 a0]) (ok := fun _ => True) (okp := fun _ => True) ?hr ?hp (fun _ hk => hk) trivial (Below.refl _ _) (Nat.le_refl _) (by simp) ?_; (case hd => rfl); (case hg => rfl); (case hr => first | (go_simp; done) | (go_simp; rfl)); (case hp => exact (Reps.one (show Kd.M (Kd.int .i64) _ _ _ a0 [.int .i64 a0] from rfl) (Reps.none _ _))); intro v119 w13 ho14 hb hg_ hnew_; clear hg_ hnew_; (first | rw [← Ny118.out] at ho14 | (simp only [Int.reduceToNat] at ho14; rw [← Ny118.out] at ho14)); have n0_ := Aside0.mk (Kd.R_elder' (by (with_reducible repeat (first | apply Kd.R_alloc | apply Kd.R_drewN | apply Kd.R_drew)); exact HO112.out) (Kd.R_base ho14) hb); have n1_ := Aside0.mk (Kd.R_below (by (with_reducible repeat (first | apply Kd.R_alloc | apply Kd.R_drewN | apply Kd.R_drew)); exact HO117.out) hb); have n2_ := Aside0.mk (Kd.R_lower (Kd.R_new' ho14 (Kd.R_lt (by (with_reducible repeat (first | apply Kd.R_alloc | apply Kd.R_drewN | apply Kd.R_drew)); exact HO112.out))) (below_size (by repeat (first | (with_reducible first | exact HB.out | apply below_alloc | apply pw_below_drewN | apply below_drew1 | refine below_set ?_ (IsS41.ge HI114.out)) | exact HB.out)))); have n3_ := Aside0.mk (IsS41.below (by repeat (first | (with_reducible first | exact HI114.out | apply IsS41.alloc | apply IsS41.drewN | apply IsS41.drew) | exact HI114.out)) hb); have n4_ := Aside0.mk (below_step (by repeat (first | (with_reducible first | exact HB.out | apply below_alloc | apply pw_below_drewN | apply below_drew1 | refine below_set ?_ (IsS41.ge HI114.out)) | exact HB.out)) hb); clear HO112; clear HO117; clear HI114; clear HB; have HO112 := n0_; have HO117 := n1_; have HO120 := n2_; have HI114 := n3_; have HB := n4_; clear n0_ n1_ n2_ n3_ n4_; clear hb ho14; obtain ⟨Ao15, co15, eo15⟩ := Kd.R_slice HO117.out; subst eo15; obtain ⟨Ao16, co16, eo16⟩ := Kd.R_slice HO120.out; subst eo16) | ((with_reducible refine gate_callee (f := 16) rfl ?_); refine goesL_ (some 17) rfl rfl Tryd.func16 (by kernel_rfl) rfl #[.slice Ao15 y115.length co15, .slice Ao16 y118.length co16] rfl (by (try simp only [List.map_toArray, List.map_cons, List.map_nil]); first | done | rfl | (simp only [List.length_drop, List.length_take]; rfl)) ?_; (with_reducible refine (manifest_line.calls k (fun k_ => some k_ = (.slice Ao15 y115.length co15 : Value).ownBlock) (.slice Ao15 y115.length co15) y115 _ _ y118 t121 w _ ?side1 ?side2 ?side3 ?side4 ?side5 A5.out).mono ?_); (case side1 => repeat (first | (with_reducible first | exact HB.out | apply below_alloc | apply pw_below_drewN | apply below_drew1 | refine below_set ?_ (IsS41.ge HI114.out)) | exact HB.out)); (case side2 => exact Kd.R_tight rfl HO117.out); (case side3 => exact Kd.C_kept_own ((Kd.R_apart' HO120.out (Kd.R_typed HO117.out) (by decide))) (fun k_ hk_ hs_ => (hk_.2) hs_)); (case side4 => exact (Kd.R_reads' HO120.out).2.1); (case side5 => exact hGA.out); rintro e w17 ⟨rfl, hb, hkp⟩; refine ⟨_, rfl, ?_⟩; have n0_ := Aside0.mk (Kd.R_mono (ok' := fun k_ => some k_ ≠ (.slice Ao16 y118.length co16 : Value).ownBlock) (Kd.R_keptB ((Kd.R_apart' HO112.out (Kd.R_typed HO117.out) (by decide))) hkp (fun k_ hk_ hs_ => (hk_.2) hs_)) (fun k_ hk_ => hk_.1.1.2)); have n1_ := Aside0.mk (IsS41.kept (by repeat (first | (with_reducible first | exact HI114.out | apply IsS41.alloc | apply IsS41.drewN | apply IsS41.drew) | exact HI114.out)) hkp (fun k_ hs_ => (fun e_ => IsS41.own_far HI114.out HO117.out (by decide) k_ e_.symm) hs_)); have n2_ := Aside0.mk (Kd.R_mono (ok' := fun k_ => some k_ ≠ (.slice Ao9 y110.length co9 : Value).ownBlock) (Kd.R_keptB ((Kd.R_apart' HO120.out (Kd.R_typed HO117.out) (by decide))) hkp (fun k_ hk_ hs_ => (hk_.2) hs_)) (fun k_ hk_ => hk_.1.1.2)); have n3_ := Aside0.mk (hb); clear HO112; clear HI114; clear HO120; clear HB; clear HO117; have HO112 := n0_; have HI114 := n1_; have HO120 := n2_; have HB := n3_; clear n0_ n1_ n2_ n3_; (try clear hb); (try clear hkp)) | ((with_reducible refine gate_callee (f := 15) rfl ?_); refine goesL_ (some 18) rfl rfl Tryd.func15 (by kernel_rfl) rfl #[.pointer (some ⟨gb114, 0, none⟩), .string t121] rfl (by (try simp only [List.map_toArray, List.map_cons, List.map_nil]); first | done | rfl | (simp only [List.length_drop, List.length_take]; rfl)) ?_; (with_reducible refine (Builder_WriteString.calls gb114 (⟨#[]⟩ : ByteArray) t121 t122 t123 t124 w _ ?side1 ?side2 A6.out).mono ?_); (case side1 => repeat (first | (with_reducible first | exact HI114.out | apply IsS41.alloc | apply IsS41.drewN | apply IsS41.drew) | exact HI114.out)); (case side2 => repeat (first | (with_reducible first | exact HB.out | apply below_alloc | apply pw_below_drewN | apply below_drew1 | refine below_set ?_ (IsS41.ge HI114.out)) | exact HB.out)); rintro e w18 ⟨rfl, hi, hb, hk⟩; refine ⟨_, rfl, ?_⟩; have n0_ := Aside0.mk (Kd.R_mono (R_keepB (IsS41.apart (show IsS41 w _ gb114 (⟨#[]⟩ : ByteArray) from by repeat (first | (with_reducible first | exact HI114.out | apply IsS41.alloc | apply IsS41.drewN | apply IsS41.drew) | exact HI114.out)) (by (with_reducible repeat (first | apply Kd.R_alloc | apply Kd.R_drewN | apply Kd.R_drew)); exact HO112.out) (by decide)) hk (by decide)) (fun _ h => h.1)); have n1_ := Aside0.mk (Kd.R_mono (R_keepB (IsS41.apart (show IsS41 w _ gb114 (⟨#[]⟩ : ByteArray) from by repeat (first | (with_reducible first | exact HI114.out | apply IsS41.alloc | apply IsS41.drewN | apply IsS41.drew) | exact HI114.out)) (by (with_reducible repeat (first | apply Kd.R_alloc | apply Kd.R_drewN | apply Kd.R_drew)); exact HO120.out) (by decide)) hk (by decide)) (fun _ h => h.1)); have n2_ := Aside0.mk (hb); have n3_ := Aside0.mk (hi); clear HO112; clear HO120; clear HB; clear HI114; have HO112 := n0_; have HO120 := n1_; have HB := n2_; have HI114 := n3_; clear n0_ n1_ n2_ n3_; (try clear hb); (try clear hk); (try clear hi); (try simp only [errW_none, errW_some])))
    go_loopg [7, 21] k (fun kq v7 v21 w' => ∃ (x7_1 : ByteArray) (x21_1 : Int) (x115000_1 : ByteArray), v7 = .string x7_1 ∧ v21 = .int .i64 x21_1 ∧ Aside0 (manifest_Print.l0 kq x7_1 l1 (l1.length : Int) x21_1 x115000_1 = some (r1, r2)) ∧ Aside0 (kq ≤ k) ∧ Aside0 (IsS41 w w' gb114 x115000_1) ∧ Aside0 (Below w.heap.size w w'))
    case atStart => exact ⟨((⟨#[]⟩ : ByteArray)), (0), (t124), (by first | rfl | (simp; done) | (simp [*]; done)), (by first | rfl | (simp; done) | (simp [*]; done)), H', ⟨Nat.le_refl _⟩, ⟨by repeat (first | (with_reducible first | exact HI114.out | apply IsS41.alloc | apply IsS41.drewN | apply IsS41.drew) | exact HI114.out)⟩, ⟨by repeat (first | (with_reducible first | exact HB.out | apply below_alloc | apply pw_below_drewN | apply below_drew1 | refine below_set ?_ (IsS41.ge HI114.out)) | exact HB.out)⟩⟩
    case round =>
      clear H'
      try clear c1
      try clear p2
      try clear c4
      try clear c9
      try clear c14
      try clear c15
      try clear c16
      obtain ⟨x7_1, x21_1, x115000_1, rfl, rfl, HA, HK1, HI114, HB⟩ := hrel
      cases gk with
      | zero => exact absurd HA.out (by simp [manifest_Print.l0])
      | succ k1 =>
        have H := HA.out
        clear HA
        simp only [manifest_Print.l0] at H
        by_cases c19 : x21_1 < (l1.length : Int)
        · rw [if_pos c19] at H
          have c19b0 : decide (x21_1 < (l1.length : Int)) = true := decide_eq_true c19
          clear c19
          by_cases c20 : 0 ≤ x21_1
          · rw [if_pos c20] at H
            have c20b0 : decide (0 ≤ x21_1) = true := decide_eq_true c20
            clear c20
            by_cases c21 : x21_1 < (l1.length : Int)
            · rw [if_pos c21] at H
              have c21b0 : decide (x21_1 < (l1.length : Int)) = true := decide_eq_true c21
              clear c21
              have HC22 := Aside0.mk H
              clear H
              have p125 : 0 ≤ (x21_1 : Int) := of_decide_eq_true (by first | (with_reducible assumption) | assumption)
              have q125 : x21_1 < (l1.length : Int) := of_decide_eq_true (by first | (with_reducible assumption) | assumption)
              obtain ⟨ad125, e125, hx125_0, hx125_1, hx125_2, hx125_3⟩ := at_T37 HR1.out x21_1 p125 q125
              cases e125
              replace hx125_0 := (HB.out.cell (World.block_lt_of_cell? w _ hx125_0)).trans hx125_0
              replace hx125_1 := (HB.out.cell (World.block_lt_of_cell? w _ hx125_1)).trans hx125_1
              replace hx125_2 := (HB.out.cell (World.block_lt_of_cell? w _ hx125_2)).trans hx125_2
              replace hx125_3 := (HB.out.cell (World.block_lt_of_cell? w _ hx125_3)).trans hx125_3
              replace p125 := eq_true p125
              replace q125 := eq_true q125
              go_upto_region 9 with (first | ((with_reducible refine gate_dst (N := 9) rfl ?_); (try (refine gate_guard (by rfl) ?_; dsimp only)); refine box_event ?hg (N := 9) ?hd (cs := #[.string (⟨#[]⟩ : ByteArray), .string (⟨#[]⟩ : ByteArray), .int .i64 0, .int .i64 0]) (t := 37) ?hr ?_; (case hd => rfl); (case hg => rfl); (case hr => first | (go_simp; done) | (go_simp; rfl)); intro gb126 hg w23 hbox hb; have n0_ := Aside0.mk (IsS41.below (by repeat (first | (with_reducible first | exact HI114.out | apply IsS41.alloc | apply IsS41.drewN | apply IsS41.drew) | exact HI114.out)) hb); have n1_ := Aside0.mk (below_step (by repeat (first | (with_reducible first | exact HB.out | apply below_alloc | apply pw_below_drewN | apply below_drew1 | refine below_set ?_ (IsS41.ge HI114.out)) | exact HB.out)) hb); have n2_ := Aside0.mk (hbox); have n3_ := Aside0.mk ((by rw [hg]; exact (below_size (by repeat (first | (with_reducible first | exact HB.out | apply below_alloc | apply pw_below_drewN | apply below_drew1 | refine below_set ?_ (IsS41.ge HI114.out)) | exact HB.out))) : w.heap.size ≤ gb126)); have n4_ := Aside0.mk ((by rw [hg]; exact (below_size (by repeat (first | (with_reducible first | exact HB.out | apply below_alloc | apply pw_below_drewN | apply below_drew1 | refine below_set ?_ (IsS41.ge HI114.out)) | exact HB.out))) : w.heap.size ≤ gb126)); have n5_ := Aside0.mk ((by rw [hg]; exact Nat.ne_of_lt (IsS41.lt (show IsS41 w _ gb114 x115000_1 from by repeat (first | (with_reducible first | exact HI114.out | apply IsS41.alloc | apply IsS41.drewN | apply IsS41.drew) | exact HI114.out))) : gb114 ≠ gb126)); have n6_ := Aside0.mk ((by rw [hg]; exact Nat.ne_of_gt (IsS41.lt (show IsS41 w _ gb114 x115000_1 from by repeat (first | (with_reducible first | exact HI114.out | apply IsS41.alloc | apply IsS41.drewN | apply IsS41.drew) | exact HI114.out))) : gb126 ≠ gb114)); clear HI114; clear HB; have HI114 := n0_; have HB := n1_; have BK126 := n2_; have GW126 := n3_; have GE126 := n4_; have NB114_126 := n5_; have NB126_114 := n6_; clear n0_ n1_ n2_ n3_ n4_ n5_ n6_; clear hb hbox hg; have hnb24 := NB126_114.out; have hnc24 := NB114_126.out; have hcz25_0 : w23.cell? ⟨gb126, 0, none⟩ = some (.string (⟨#[]⟩ : ByteArray)) := (blk_cell BK126.out 0).trans rfl; have hcz25_1 : w23.cell? ⟨gb126, 1, none⟩ = some (.string (⟨#[]⟩ : ByteArray)) := (blk_cell BK126.out 1).trans rfl; have hcz25_2 : w23.cell? ⟨gb126, 2, none⟩ = some (.int .i64 0) := (blk_cell BK126.out 2).trans rfl; have hcz25_3 : w23.cell? ⟨gb126, 3, none⟩ = some (.int .i64 0) := (blk_cell BK126.out 3).trans rfl; have hfz25_0 := blk_frozen BK126.out 0; have hfz25_1 := blk_frozen BK126.out 1; have hfz25_2 := blk_frozen BK126.out 2; have hfz25_3 := blk_frozen BK126.out 3))
              (try simp only [Act.put, List.setIfInBounds_toArray, List.set_cons_zero, List.set_cons_succ])
              go_cut [49] (fun v49 wc => ∃ (kq : Nat) (x49_21 : Bool), v49 = .bool x49_21 ∧ Aside0 (manifest_Print.j1 kq l1 (l1.length : Int) x21_1 x49_21 x115000_1 ((rd_T37 l1 x21_1).f0) ((rd_T37 l1 x21_1).f1) ((rd_T37 l1 x21_1).f2) ((rd_T37 l1 x21_1).f3) = some (r1, r2)) ∧ Aside0 (kq ≤ k1) ∧ Aside0 (wc.heap[gb126]? = some (.cells #[.string ((rd_T37 l1 x21_1).f0), .string ((rd_T37 l1 x21_1).f1), .int .i64 ((rd_T37 l1 x21_1).f2), .int .i64 ((rd_T37 l1 x21_1).f3)] 37 (0, 0))) ∧ Aside0 (IsS41 w wc gb114 x115000_1) ∧ Aside0 (Below w.heap.size w wc))
              case first =>
                have H := HC22.out
                clear HC22
                replace H := Option.bind_eq_some_iff.mp H
                obtain ⟨t127, A260, H⟩ := H
                replace H : (if t127 = true then ((manifest_name.f ((rd_T37 l1 x21_1).f1)).bind fun t128 => (if t128 = true then ((manifest_near.f k1 (([(rd_T37 l1 x21_1).f2, (rd_T37 l1 x21_1).f3] : List Int))).bind fun t132 => (if t132 = true then (manifest_Print.j1 k1 l1 (l1.length : Int) x21_1 (!(Op.bytesLess x7_1.toList (((rd_T37 l1 x21_1).f0).toList))) x115000_1 ((rd_T37 l1 x21_1).f0) ((rd_T37 l1 x21_1).f1) ((rd_T37 l1 x21_1).f2) ((rd_T37 l1 x21_1).f3)) else (manifest_Print.j1 k1 l1 (l1.length : Int) x21_1 true x115000_1 ((rd_T37 l1 x21_1).f0) ((rd_T37 l1 x21_1).f1) ((rd_T37 l1 x21_1).f2) ((rd_T37 l1 x21_1).f3)))) else (manifest_Print.j1 k1 l1 (l1.length : Int) x21_1 true x115000_1 ((rd_T37 l1 x21_1).f0) ((rd_T37 l1 x21_1).f1) ((rd_T37 l1 x21_1).f2) ((rd_T37 l1 x21_1).f3)))) else (manifest_Print.j1 k1 l1 (l1.length : Int) x21_1 true x115000_1 ((rd_T37 l1 x21_1).f0) ((rd_T37 l1 x21_1).f1) ((rd_T37 l1 x21_1).f2) ((rd_T37 l1 x21_1).f3))) = some (r1, r2) := H
                have A26 := Aside0.mk A260
                clear A260
                by_cases c27 : t127 = true
                · subst c27
                  have H1 : ((manifest_name.f ((rd_T37 l1 x21_1).f1)).bind fun t128 => (if t128 = true then ((manifest_near.f k1 (([(rd_T37 l1 x21_1).f2, (rd_T37 l1 x21_1).f3] : List Int))).bind fun t132 => (if t132 = true then (manifest_Print.j1 k1 l1 (l1.length : Int) x21_1 (!(Op.bytesLess x7_1.toList (((rd_T37 l1 x21_1).f0).toList))) x115000_1 ((rd_T37 l1 x21_1).f0) ((rd_T37 l1 x21_1).f1) ((rd_T37 l1 x21_1).f2) ((rd_T37 l1 x21_1).f3)) else (manifest_Print.j1 k1 l1 (l1.length : Int) x21_1 true x115000_1 ((rd_T37 l1 x21_1).f0) ((rd_T37 l1 x21_1).f1) ((rd_T37 l1 x21_1).f2) ((rd_T37 l1 x21_1).f3)))) else (manifest_Print.j1 k1 l1 (l1.length : Int) x21_1 true x115000_1 ((rd_T37 l1 x21_1).f0) ((rd_T37 l1 x21_1).f1) ((rd_T37 l1 x21_1).f2) ((rd_T37 l1 x21_1).f3)))) = some (r1, r2) := by rw [if_pos rfl] at H; exact H
                  clear H
                  have H := H1
                  clear H1
                  replace H := Option.bind_eq_some_iff.mp H
                  obtain ⟨t128, A280, H⟩ := H
                  replace H : (if t128 = true then ((manifest_near.f k1 (([(rd_T37 l1 x21_1).f2, (rd_T37 l1 x21_1).f3] : List Int))).bind fun t132 => (if t132 = true then (manifest_Print.j1 k1 l1 (l1.length : Int) x21_1 (!(Op.bytesLess x7_1.toList (((rd_T37 l1 x21_1).f0).toList))) x115000_1 ((rd_T37 l1 x21_1).f0) ((rd_T37 l1 x21_1).f1) ((rd_T37 l1 x21_1).f2) ((rd_T37 l1 x21_1).f3)) else (manifest_Print.j1 k1 l1 (l1.length : Int) x21_1 true x115000_1 ((rd_T37 l1 x21_1).f0) ((rd_T37 l1 x21_1).f1) ((rd_T37 l1 x21_1).f2) ((rd_T37 l1 x21_1).f3)))) else (manifest_Print.j1 k1 l1 (l1.length : Int) x21_1 true x115000_1 ((rd_T37 l1 x21_1).f0) ((rd_T37 l1 x21_1).f1) ((rd_T37 l1 x21_1).f2) ((rd_T37 l1 x21_1).f3))) = some (r1, r2) := H
                  have A28 := Aside0.mk A280
                  clear A280
                  by_cases c29 : t128 = true
                  · subst c29
                    have H1 : ((manifest_near.f k1 (([(rd_T37 l1 x21_1).f2, (rd_T37 l1 x21_1).f3] : List Int))).bind fun t132 => (if t132 = true then (manifest_Print.j1 k1 l1 (l1.length : Int) x21_1 (!(Op.bytesLess x7_1.toList (((rd_T37 l1 x21_1).f0).toList))) x115000_1 ((rd_T37 l1 x21_1).f0) ((rd_T37 l1 x21_1).f1) ((rd_T37 l1 x21_1).f2) ((rd_T37 l1 x21_1).f3)) else (manifest_Print.j1 k1 l1 (l1.length : Int) x21_1 true x115000_1 ((rd_T37 l1 x21_1).f0) ((rd_T37 l1 x21_1).f1) ((rd_T37 l1 x21_1).f2) ((rd_T37 l1 x21_1).f3)))) = some (r1, r2) := by rw [if_pos rfl] at H; exact H
                    clear H
                    have H := H1
                    clear H1
                    obtain ⟨y129, hy129⟩ : ∃ y_ : List Int, y_ = (([(rd_T37 l1 x21_1).f2, (rd_T37 l1 x21_1).f3] : List Int)) := ⟨_, rfl⟩
                    replace H : ((manifest_near.f k1 y129).bind fun t132 => (if t132 = true then (manifest_Print.j1 k1 l1 (l1.length : Int) x21_1 (!(Op.bytesLess x7_1.toList (((rd_T37 l1 x21_1).f0).toList))) x115000_1 ((rd_T37 l1 x21_1).f0) ((rd_T37 l1 x21_1).f1) ((rd_T37 l1 x21_1).f2) ((rd_T37 l1 x21_1).f3)) else (manifest_Print.j1 k1 l1 (l1.length : Int) x21_1 true x115000_1 ((rd_T37 l1 x21_1).f0) ((rd_T37 l1 x21_1).f1) ((rd_T37 l1 x21_1).f2) ((rd_T37 l1 x21_1).f3)))) = some (r1, r2) := by first | (rw [hy129]; with_reducible exact H) | (have H2_ := (Option.bind_some _ _).symm.trans H; rw [hy129]; with_reducible exact H2_) | (have H2_ := (Option.bind_some _ _).symm.trans H; with_reducible exact H2_) | with_reducible exact H | (rw [hy129]; exact H) | exact H
                    have Ny129 := Aside0.mk hy129
                    clear hy129
                    replace H := Option.bind_eq_some_iff.mp H
                    obtain ⟨t132, A300, H⟩ := H
                    replace H : (if t132 = true then (manifest_Print.j1 k1 l1 (l1.length : Int) x21_1 (!(Op.bytesLess x7_1.toList (((rd_T37 l1 x21_1).f0).toList))) x115000_1 ((rd_T37 l1 x21_1).f0) ((rd_T37 l1 x21_1).f1) ((rd_T37 l1 x21_1).f2) ((rd_T37 l1 x21_1).f3)) else (manifest_Print.j1 k1 l1 (l1.length : Int) x21_1 true x115000_1 ((rd_T37 l1 x21_1).f0) ((rd_T37 l1 x21_1).f1) ((rd_T37 l1 x21_1).f2) ((rd_T37 l1 x21_1).f3))) = some (r1, r2) := H
                    have A30 := Aside0.mk A300
                    clear A300
                    by_cases c31 : t132 = true
                    · subst c31
                      have H1 : (manifest_Print.j1 k1 l1 (l1.length : Int) x21_1 (!(Op.bytesLess x7_1.toList (((rd_T37 l1 x21_1).f0).toList))) x115000_1 ((rd_T37 l1 x21_1).f0) ((rd_T37 l1 x21_1).f1) ((rd_T37 l1 x21_1).f2) ((rd_T37 l1 x21_1).f3)) = some (r1, r2) := by rw [if_pos rfl] at H; exact H
                      clear H
                      have H := H1
                      clear H1
                      have H' := Aside0.mk H
                      clear H
                      have hnb32 := NB126_114.out
                      have hnc32 := NB114_126.out
                      have hcz33_0 : w23.cell? ⟨gb126, 0, none⟩ = some (.string (⟨#[]⟩ : ByteArray)) := (blk_cell BK126.out 0).trans rfl
                      have hcz33_1 : w23.cell? ⟨gb126, 1, none⟩ = some (.string (⟨#[]⟩ : ByteArray)) := (blk_cell BK126.out 1).trans rfl
                      have hcz33_2 : w23.cell? ⟨gb126, 2, none⟩ = some (.int .i64 0) := (blk_cell BK126.out 2).trans rfl
                      have hcz33_3 : w23.cell? ⟨gb126, 3, none⟩ = some (.int .i64 0) := (blk_cell BK126.out 3).trans rfl
                      have hfz33_0 := blk_frozen BK126.out 0
                      have hfz33_1 := blk_frozen BK126.out 1
                      have hfz33_2 := blk_frozen BK126.out 2
                      have hfz33_3 := blk_frozen BK126.out 3
                      go_wp2_with (first | ((with_reducible refine gate_callee (f := 17) rfl ?_); refine goesL_ (some 27) rfl rfl Tryd.func17 (by kernel_rfl) rfl #[.string ((rd_T37 l1 x21_1).f0)] rfl (by (try simp only [List.map_toArray, List.map_cons, List.map_nil]); first | done | rfl | (simp only [List.length_drop, List.length_take]; rfl)) ?_; (with_reducible refine (manifest_name.calls ((rd_T37 l1 x21_1).f0) true _ A26.out).mono ?_); rintro e w34 ⟨rfl, hb⟩; refine ⟨_, rfl, ?_⟩; have n0_ := Aside0.mk (IsS41.below (show IsS41 w ((((w23.setCell ⟨gb126, 0, none⟩ (.string ((rd_T37 l1 x21_1).f0))).setCell ⟨gb126, 1, none⟩ (.string ((rd_T37 l1 x21_1).f1))).setCell ⟨gb126, 2, none⟩ (.int .i64 ((rd_T37 l1 x21_1).f2))).setCell ⟨gb126, 3, none⟩ (.int .i64 ((rd_T37 l1 x21_1).f3))) gb114 x115000_1 from by repeat (first | (with_reducible first | exact HI114.out | apply IsS41.alloc | apply IsS41.drewN | apply IsS41.drew | refine IsS41.farB ?_ NB114_126.out (by repeat (first | exact ⟨_, _, BK126.out⟩ | apply typ_set | apply typ_alloc | apply typ_drewN | apply typ_drew)) (by decide) _) | exact HI114.out)) hb); have n1_ := Aside0.mk (blk_below (g := gb126) (o := .cells #[.string ((rd_T37 l1 x21_1).f0), .string ((rd_T37 l1 x21_1).f1), .int .i64 ((rd_T37 l1 x21_1).f2), .int .i64 ((rd_T37 l1 x21_1).f3)] 37 (0, 0)) (by (with_reducible repeat (first | refine blk_drewN ?_ _ | refine blk_drew ?_ | refine blk_alloc ?_ _)); refine blk_put (cs := #[.string ((rd_T37 l1 x21_1).f0), .string ((rd_T37 l1 x21_1).f1), .int .i64 ((rd_T37 l1 x21_1).f2), .int .i64 0]) ?_ 3 _ rfl; (with_reducible repeat (first | refine blk_drewN ?_ _ | refine blk_drew ?_ | refine blk_alloc ?_ _)); refine blk_put (cs := #[.string ((rd_T37 l1 x21_1).f0), .string ((rd_T37 l1 x21_1).f1), .int .i64 0, .int .i64 0]) ?_ 2 _ rfl; (with_reducible repeat (first | refine blk_drewN ?_ _ | refine blk_drew ?_ | refine blk_alloc ?_ _)); refine blk_put (cs := #[.string ((rd_T37 l1 x21_1).f0), .string (⟨#[]⟩ : ByteArray), .int .i64 0, .int .i64 0]) ?_ 1 _ rfl; (with_reducible repeat (first | refine blk_drewN ?_ _ | refine blk_drew ?_ | refine blk_alloc ?_ _)); refine blk_put (cs := #[.string (⟨#[]⟩ : ByteArray), .string (⟨#[]⟩ : ByteArray), .int .i64 0, .int .i64 0]) ?_ 0 _ rfl; (with_reducible repeat (first | refine blk_drewN ?_ _ | refine blk_drew ?_ | refine blk_alloc ?_ _)); exact BK126.out) hb); have n2_ := Aside0.mk (below_step (by repeat (first | (with_reducible first | exact HB.out | apply below_alloc | apply pw_below_drewN | apply below_drew1 | refine below_set ?_ (IsS41.ge HI114.out) | refine below_set ?_ GE126.out) | exact HB.out)) hb); clear HI114; clear BK126; clear HB; have HI114 := n0_; have BK126 := n1_; have HB := n2_; clear n0_ n1_ n2_; (try clear hb); (try clear hb2); (try clear hk); (try clear hi); have hcz35_0 : w34.cell? ⟨gb126, 0, none⟩ = some (.string ((rd_T37 l1 x21_1).f0)) := (blk_cell BK126.out 0).trans rfl; have hcz35_1 : w34.cell? ⟨gb126, 1, none⟩ = some (.string ((rd_T37 l1 x21_1).f1)) := (blk_cell BK126.out 1).trans rfl; have hcz35_2 : w34.cell? ⟨gb126, 2, none⟩ = some (.int .i64 ((rd_T37 l1 x21_1).f2)) := (blk_cell BK126.out 2).trans rfl; have hcz35_3 : w34.cell? ⟨gb126, 3, none⟩ = some (.int .i64 ((rd_T37 l1 x21_1).f3)) := (blk_cell BK126.out 3).trans rfl; have hfz35_0 := blk_frozen BK126.out 0; have hfz35_1 := blk_frozen BK126.out 1; have hfz35_2 := blk_frozen BK126.out 2; have hfz35_3 := blk_frozen BK126.out 3) | (go_at_call 17; (with_reducible refine (manifest_name.calls ((rd_T37 l1 x21_1).f1) true _ A28.out).mono ?_); rintro e w36 ⟨rfl, hb⟩; have n0_ := Aside0.mk (IsS41.below (by repeat (first | (with_reducible first | exact HI114.out | apply IsS41.alloc | apply IsS41.drewN | apply IsS41.drew | refine IsS41.farB ?_ NB114_126.out (by repeat (first | exact ⟨_, _, BK126.out⟩ | apply typ_set | apply typ_alloc | apply typ_drewN | apply typ_drew)) (by decide) _) | exact HI114.out)) hb); have n1_ := Aside0.mk (blk_below (g := gb126) (o := .cells #[.string ((rd_T37 l1 x21_1).f0), .string ((rd_T37 l1 x21_1).f1), .int .i64 ((rd_T37 l1 x21_1).f2), .int .i64 ((rd_T37 l1 x21_1).f3)] 37 (0, 0)) (by (with_reducible repeat (first | refine blk_drewN ?_ _ | refine blk_drew ?_ | refine blk_alloc ?_ _)); exact BK126.out) hb); have n2_ := Aside0.mk (below_step (by repeat (first | (with_reducible first | exact HB.out | apply below_alloc | apply pw_below_drewN | apply below_drew1 | refine below_set ?_ (IsS41.ge HI114.out) | refine below_set ?_ GE126.out) | exact HB.out)) hb); clear HI114; clear BK126; clear HB; have HI114 := n0_; have BK126 := n1_; have HB := n2_; clear n0_ n1_ n2_; (try clear hb); (try clear hb2); (try clear hk); (try clear hi); have hcz37_0 : w36.cell? ⟨gb126, 0, none⟩ = some (.string ((rd_T37 l1 x21_1).f0)) := (blk_cell BK126.out 0).trans rfl; have hcz37_1 : w36.cell? ⟨gb126, 1, none⟩ = some (.string ((rd_T37 l1 x21_1).f1)) := (blk_cell BK126.out 1).trans rfl; have hcz37_2 : w36.cell? ⟨gb126, 2, none⟩ = some (.int .i64 ((rd_T37 l1 x21_1).f2)) := (blk_cell BK126.out 2).trans rfl; have hcz37_3 : w36.cell? ⟨gb126, 3, none⟩ = some (.int .i64 ((rd_T37 l1 x21_1).f3)) := (blk_cell BK126.out 3).trans rfl; have hfz37_0 := blk_frozen BK126.out 0; have hfz37_1 := blk_frozen BK126.out 1; have hfz37_2 := blk_frozen BK126.out 2; have hfz37_3 := blk_frozen BK126.out 3) | ((with_reducible refine gate_dst (N := 40) rfl ?_); (try (refine gate_guard (by rfl) ?_; dsimp only)); refine Kd.R_lit (Kd.int .i64) _ 3 ?hg (N := 40) ?hd (xs := ([(rd_T37 l1 x21_1).f2, (rd_T37 l1 x21_1).f3] : List Int)) (inner := [.int .i64 ((rd_T37 l1 x21_1).f2), .int .i64 ((rd_T37 l1 x21_1).f3)]) (ok := fun _ => True) (okp := fun _ => True) ?hr ?hp (fun _ hk => hk) trivial (Below.refl _ _) (Nat.le_refl _) (by simp) ?_; (case hd => rfl); (case hg => rfl); (case hr => first | (go_simp; done) | (go_simp; rfl)); (case hp => exact (Reps.one (show Kd.M (Kd.int .i64) _ _ _ ((rd_T37 l1 x21_1).f2) [.int .i64 ((rd_T37 l1 x21_1).f2)] from rfl) (Reps.one (show Kd.M (Kd.int .i64) _ _ _ ((rd_T37 l1 x21_1).f3) [.int .i64 ((rd_T37 l1 x21_1).f3)] from rfl) (Reps.none _ _)))); intro v130 w38 ho39 hb hg_ hnew_; clear hg_ hnew_; (first | rw [← Ny129.out] at ho39 | (simp only [Int.reduceToNat] at ho39; rw [← Ny129.out] at ho39)); have n0_ := Aside0.mk (Kd.R_lower ho39 (below_size (by repeat (first | (with_reducible first | exact HB.out | apply below_alloc | apply pw_below_drewN | apply below_drew1 | refine below_set ?_ (IsS41.ge HI114.out) | refine below_set ?_ GE126.out) | exact HB.out)))); have n1_ := Aside0.mk (IsS41.below (by repeat (first | (with_reducible first | exact HI114.out | apply IsS41.alloc | apply IsS41.drewN | apply IsS41.drew | refine IsS41.farB ?_ NB114_126.out (by repeat (first | exact ⟨_, _, BK126.out⟩ | apply typ_set | apply typ_alloc | apply typ_drewN | apply typ_drew)) (by decide) _) | exact HI114.out)) hb); have n2_ := Aside0.mk (blk_below (g := gb126) (o := .cells #[.string ((rd_T37 l1 x21_1).f0), .string ((rd_T37 l1 x21_1).f1), .int .i64 ((rd_T37 l1 x21_1).f2), .int .i64 ((rd_T37 l1 x21_1).f3)] 37 (0, 0)) (by (with_reducible repeat (first | refine blk_drewN ?_ _ | refine blk_drew ?_ | refine blk_alloc ?_ _)); exact BK126.out) hb); have n3_ := Aside0.mk (below_step (by repeat (first | (with_reducible first | exact HB.out | apply below_alloc | apply pw_below_drewN | apply below_drew1 | refine below_set ?_ (IsS41.ge HI114.out) | refine below_set ?_ GE126.out) | exact HB.out)) hb); clear HI114; clear BK126; clear HB; have HO131 := n0_; have HI114 := n1_; have BK126 := n2_; have HB := n3_; clear n0_ n1_ n2_ n3_; clear hb ho39; obtain ⟨Ao40, co40, eo40⟩ := Kd.R_slice HO131.out; subst eo40) | (go_at_call 14; (with_reducible refine (manifest_near.calls k1 _ _ y129 true _ ?side1 ?side2 A30.out).mono ?_); (case side1 => repeat (first | exact (Kd.R_reads' HO131.out).2.2 | (with_reducible refine Kd.C_alloc ?_ _) | (with_reducible refine Kd.C_drewN ?_ _) | (with_reducible refine Kd.C_drew ?_))); (case side2 => exact (Kd.R_reads' HO131.out).2.1); rintro e w' ⟨rfl, ⟨nd, rfl⟩⟩; have hcz41_0 : w38.cell? ⟨gb126, 0, none⟩ = some (.string ((rd_T37 l1 x21_1).f0)) := (blk_cell BK126.out 0).trans rfl; have hcz41_1 : w38.cell? ⟨gb126, 1, none⟩ = some (.string ((rd_T37 l1 x21_1).f1)) := (blk_cell BK126.out 1).trans rfl; have hcz41_2 : w38.cell? ⟨gb126, 2, none⟩ = some (.int .i64 ((rd_T37 l1 x21_1).f2)) := (blk_cell BK126.out 2).trans rfl; have hcz41_3 : w38.cell? ⟨gb126, 3, none⟩ = some (.int .i64 ((rd_T37 l1 x21_1).f3)) := (blk_cell BK126.out 3).trans rfl; have hfz41_0 := blk_frozen BK126.out 0; have hfz41_1 := blk_frozen BK126.out 1; have hfz41_2 := blk_frozen BK126.out 2; have hfz41_3 := blk_frozen BK126.out 3))
                      go_meet
                      case rel => exact ⟨_, (!(Op.bytesLess x7_1.toList (((rd_T37 l1 x21_1).f0).toList))), (by first | rfl | (simp; done) | (simp [*]; done)), H', ⟨by have := HK1.out; first | omega | exact Nat.le_refl _⟩, ⟨by (with_reducible repeat (first | refine blk_drewN ?_ _ | refine blk_drew ?_ | refine blk_alloc ?_ _)); exact BK126.out⟩, ⟨by repeat (first | (with_reducible first | exact HI114.out | apply IsS41.alloc | apply IsS41.drewN | apply IsS41.drew | refine IsS41.farB ?_ NB114_126.out (by repeat (first | exact ⟨_, _, BK126.out⟩ | apply typ_set | apply typ_alloc | apply typ_drewN | apply typ_drew)) (by decide) _) | exact HI114.out)⟩, ⟨by repeat (first | (with_reducible first | exact HB.out | apply below_alloc | apply pw_below_drewN | apply below_drew1 | refine below_set ?_ (IsS41.ge HI114.out) | refine below_set ?_ GE126.out) | exact HB.out)⟩⟩
                    · replace c31 := Bool.eq_false_iff.mpr c31
                      subst c31
                      have H1 : (manifest_Print.j1 k1 l1 (l1.length : Int) x21_1 true x115000_1 ((rd_T37 l1 x21_1).f0) ((rd_T37 l1 x21_1).f1) ((rd_T37 l1 x21_1).f2) ((rd_T37 l1 x21_1).f3)) = some (r1, r2) := by rw [if_neg (show ¬ (false = true) by decide)] at H; exact H
                      clear H
                      have H := H1
                      clear H1
                      have H' := Aside0.mk H
                      clear H
                      have hnb42 := NB126_114.out
                      have hnc42 := NB114_126.out
                      have hcz43_0 : w23.cell? ⟨gb126, 0, none⟩ = some (.string (⟨#[]⟩ : ByteArray)) := (blk_cell BK126.out 0).trans rfl
                      have hcz43_1 : w23.cell? ⟨gb126, 1, none⟩ = some (.string (⟨#[]⟩ : ByteArray)) := (blk_cell BK126.out 1).trans rfl
                      have hcz43_2 : w23.cell? ⟨gb126, 2, none⟩ = some (.int .i64 0) := (blk_cell BK126.out 2).trans rfl
                      have hcz43_3 : w23.cell? ⟨gb126, 3, none⟩ = some (.int .i64 0) := (blk_cell BK126.out 3).trans rfl
                      have hfz43_0 := blk_frozen BK126.out 0
                      have hfz43_1 := blk_frozen BK126.out 1
                      have hfz43_2 := blk_frozen BK126.out 2
                      have hfz43_3 := blk_frozen BK126.out 3
                      go_wp2_with (first | ((with_reducible refine gate_callee (f := 17) rfl ?_); refine goesL_ (some 27) rfl rfl Tryd.func17 (by kernel_rfl) rfl #[.string ((rd_T37 l1 x21_1).f0)] rfl (by (try simp only [List.map_toArray, List.map_cons, List.map_nil]); first | done | rfl | (simp only [List.length_drop, List.length_take]; rfl)) ?_; (with_reducible refine (manifest_name.calls ((rd_T37 l1 x21_1).f0) true _ A26.out).mono ?_); rintro e w44 ⟨rfl, hb⟩; refine ⟨_, rfl, ?_⟩; have n0_ := Aside0.mk (IsS41.below (show IsS41 w ((((w23.setCell ⟨gb126, 0, none⟩ (.string ((rd_T37 l1 x21_1).f0))).setCell ⟨gb126, 1, none⟩ (.string ((rd_T37 l1 x21_1).f1))).setCell ⟨gb126, 2, none⟩ (.int .i64 ((rd_T37 l1 x21_1).f2))).setCell ⟨gb126, 3, none⟩ (.int .i64 ((rd_T37 l1 x21_1).f3))) gb114 x115000_1 from by repeat (first | (with_reducible first | exact HI114.out | apply IsS41.alloc | apply IsS41.drewN | apply IsS41.drew | refine IsS41.farB ?_ NB114_126.out (by repeat (first | exact ⟨_, _, BK126.out⟩ | apply typ_set | apply typ_alloc | apply typ_drewN | apply typ_drew)) (by decide) _) | exact HI114.out)) hb); have n1_ := Aside0.mk (blk_below (g := gb126) (o := .cells #[.string ((rd_T37 l1 x21_1).f0), .string ((rd_T37 l1 x21_1).f1), .int .i64 ((rd_T37 l1 x21_1).f2), .int .i64 ((rd_T37 l1 x21_1).f3)] 37 (0, 0)) (by (with_reducible repeat (first | refine blk_drewN ?_ _ | refine blk_drew ?_ | refine blk_alloc ?_ _)); refine blk_put (cs := #[.string ((rd_T37 l1 x21_1).f0), .string ((rd_T37 l1 x21_1).f1), .int .i64 ((rd_T37 l1 x21_1).f2), .int .i64 0]) ?_ 3 _ rfl; (with_reducible repeat (first | refine blk_drewN ?_ _ | refine blk_drew ?_ | refine blk_alloc ?_ _)); refine blk_put (cs := #[.string ((rd_T37 l1 x21_1).f0), .string ((rd_T37 l1 x21_1).f1), .int .i64 0, .int .i64 0]) ?_ 2 _ rfl; (with_reducible repeat (first | refine blk_drewN ?_ _ | refine blk_drew ?_ | refine blk_alloc ?_ _)); refine blk_put (cs := #[.string ((rd_T37 l1 x21_1).f0), .string (⟨#[]⟩ : ByteArray), .int .i64 0, .int .i64 0]) ?_ 1 _ rfl; (with_reducible repeat (first | refine blk_drewN ?_ _ | refine blk_drew ?_ | refine blk_alloc ?_ _)); refine blk_put (cs := #[.string (⟨#[]⟩ : ByteArray), .string (⟨#[]⟩ : ByteArray), .int .i64 0, .int .i64 0]) ?_ 0 _ rfl; (with_reducible repeat (first | refine blk_drewN ?_ _ | refine blk_drew ?_ | refine blk_alloc ?_ _)); exact BK126.out) hb); have n2_ := Aside0.mk (below_step (by repeat (first | (with_reducible first | exact HB.out | apply below_alloc | apply pw_below_drewN | apply below_drew1 | refine below_set ?_ (IsS41.ge HI114.out) | refine below_set ?_ GE126.out) | exact HB.out)) hb); clear HI114; clear BK126; clear HB; have HI114 := n0_; have BK126 := n1_; have HB := n2_; clear n0_ n1_ n2_; (try clear hb); (try clear hb2); (try clear hk); (try clear hi); have hcz45_0 : w44.cell? ⟨gb126, 0, none⟩ = some (.string ((rd_T37 l1 x21_1).f0)) := (blk_cell BK126.out 0).trans rfl; have hcz45_1 : w44.cell? ⟨gb126, 1, none⟩ = some (.string ((rd_T37 l1 x21_1).f1)) := (blk_cell BK126.out 1).trans rfl; have hcz45_2 : w44.cell? ⟨gb126, 2, none⟩ = some (.int .i64 ((rd_T37 l1 x21_1).f2)) := (blk_cell BK126.out 2).trans rfl; have hcz45_3 : w44.cell? ⟨gb126, 3, none⟩ = some (.int .i64 ((rd_T37 l1 x21_1).f3)) := (blk_cell BK126.out 3).trans rfl; have hfz45_0 := blk_frozen BK126.out 0; have hfz45_1 := blk_frozen BK126.out 1; have hfz45_2 := blk_frozen BK126.out 2; have hfz45_3 := blk_frozen BK126.out 3) | (go_at_call 17; (with_reducible refine (manifest_name.calls ((rd_T37 l1 x21_1).f1) true _ A28.out).mono ?_); rintro e w46 ⟨rfl, hb⟩; have n0_ := Aside0.mk (IsS41.below (by repeat (first | (with_reducible first | exact HI114.out | apply IsS41.alloc | apply IsS41.drewN | apply IsS41.drew | refine IsS41.farB ?_ NB114_126.out (by repeat (first | exact ⟨_, _, BK126.out⟩ | apply typ_set | apply typ_alloc | apply typ_drewN | apply typ_drew)) (by decide) _) | exact HI114.out)) hb); have n1_ := Aside0.mk (blk_below (g := gb126) (o := .cells #[.string ((rd_T37 l1 x21_1).f0), .string ((rd_T37 l1 x21_1).f1), .int .i64 ((rd_T37 l1 x21_1).f2), .int .i64 ((rd_T37 l1 x21_1).f3)] 37 (0, 0)) (by (with_reducible repeat (first | refine blk_drewN ?_ _ | refine blk_drew ?_ | refine blk_alloc ?_ _)); exact BK126.out) hb); have n2_ := Aside0.mk (below_step (by repeat (first | (with_reducible first | exact HB.out | apply below_alloc | apply pw_below_drewN | apply below_drew1 | refine below_set ?_ (IsS41.ge HI114.out) | refine below_set ?_ GE126.out) | exact HB.out)) hb); clear HI114; clear BK126; clear HB; have HI114 := n0_; have BK126 := n1_; have HB := n2_; clear n0_ n1_ n2_; (try clear hb); (try clear hb2); (try clear hk); (try clear hi); have hcz47_0 : w46.cell? ⟨gb126, 0, none⟩ = some (.string ((rd_T37 l1 x21_1).f0)) := (blk_cell BK126.out 0).trans rfl; have hcz47_1 : w46.cell? ⟨gb126, 1, none⟩ = some (.string ((rd_T37 l1 x21_1).f1)) := (blk_cell BK126.out 1).trans rfl; have hcz47_2 : w46.cell? ⟨gb126, 2, none⟩ = some (.int .i64 ((rd_T37 l1 x21_1).f2)) := (blk_cell BK126.out 2).trans rfl; have hcz47_3 : w46.cell? ⟨gb126, 3, none⟩ = some (.int .i64 ((rd_T37 l1 x21_1).f3)) := (blk_cell BK126.out 3).trans rfl; have hfz47_0 := blk_frozen BK126.out 0; have hfz47_1 := blk_frozen BK126.out 1; have hfz47_2 := blk_frozen BK126.out 2; have hfz47_3 := blk_frozen BK126.out 3) | ((with_reducible refine gate_dst (N := 40) rfl ?_); (try (refine gate_guard (by rfl) ?_; dsimp only)); refine Kd.R_lit (Kd.int .i64) _ 3 ?hg (N := 40) ?hd (xs := ([(rd_T37 l1 x21_1).f2, (rd_T37 l1 x21_1).f3] : List Int)) (inner := [.int .i64 ((rd_T37 l1 x21_1).f2), .int .i64 ((rd_T37 l1 x21_1).f3)]) (ok := fun _ => True) (okp := fun _ => True) ?hr ?hp (fun _ hk => hk) trivial (Below.refl _ _) (Nat.le_refl _) (by simp) ?_; (case hd => rfl); (case hg => rfl); (case hr => first | (go_simp; done) | (go_simp; rfl)); (case hp => exact (Reps.one (show Kd.M (Kd.int .i64) _ _ _ ((rd_T37 l1 x21_1).f2) [.int .i64 ((rd_T37 l1 x21_1).f2)] from rfl) (Reps.one (show Kd.M (Kd.int .i64) _ _ _ ((rd_T37 l1 x21_1).f3) [.int .i64 ((rd_T37 l1 x21_1).f3)] from rfl) (Reps.none _ _)))); intro v130 w48 ho49 hb hg_ hnew_; clear hg_ hnew_; (first | rw [← Ny129.out] at ho49 | (simp only [Int.reduceToNat] at ho49; rw [← Ny129.out] at ho49)); have n0_ := Aside0.mk (Kd.R_lower ho49 (below_size (by repeat (first | (with_reducible first | exact HB.out | apply below_alloc | apply pw_below_drewN | apply below_drew1 | refine below_set ?_ (IsS41.ge HI114.out) | refine below_set ?_ GE126.out) | exact HB.out)))); have n1_ := Aside0.mk (IsS41.below (by repeat (first | (with_reducible first | exact HI114.out | apply IsS41.alloc | apply IsS41.drewN | apply IsS41.drew | refine IsS41.farB ?_ NB114_126.out (by repeat (first | exact ⟨_, _, BK126.out⟩ | apply typ_set | apply typ_alloc | apply typ_drewN | apply typ_drew)) (by decide) _) | exact HI114.out)) hb); have n2_ := Aside0.mk (blk_below (g := gb126) (o := .cells #[.string ((rd_T37 l1 x21_1).f0), .string ((rd_T37 l1 x21_1).f1), .int .i64 ((rd_T37 l1 x21_1).f2), .int .i64 ((rd_T37 l1 x21_1).f3)] 37 (0, 0)) (by (with_reducible repeat (first | refine blk_drewN ?_ _ | refine blk_drew ?_ | refine blk_alloc ?_ _)); exact BK126.out) hb); have n3_ := Aside0.mk (below_step (by repeat (first | (with_reducible first | exact HB.out | apply below_alloc | apply pw_below_drewN | apply below_drew1 | refine below_set ?_ (IsS41.ge HI114.out) | refine below_set ?_ GE126.out) | exact HB.out)) hb); clear HI114; clear BK126; clear HB; have HO131 := n0_; have HI114 := n1_; have BK126 := n2_; have HB := n3_; clear n0_ n1_ n2_ n3_; clear hb ho49; obtain ⟨Ao50, co50, eo50⟩ := Kd.R_slice HO131.out; subst eo50) | (go_at_call 14; (with_reducible refine (manifest_near.calls k1 _ _ y129 false _ ?side1 ?side2 A30.out).mono ?_); (case side1 => repeat (first | exact (Kd.R_reads' HO131.out).2.2 | (with_reducible refine Kd.C_alloc ?_ _) | (with_reducible refine Kd.C_drewN ?_ _) | (with_reducible refine Kd.C_drew ?_))); (case side2 => exact (Kd.R_reads' HO131.out).2.1); rintro e w' ⟨rfl, ⟨nd, rfl⟩⟩))
                      go_meet
                      case rel => exact ⟨_, (true), (by first | rfl | (simp; done) | (simp [*]; done)), H', ⟨by have := HK1.out; first | omega | exact Nat.le_refl _⟩, ⟨by (with_reducible repeat (first | refine blk_drewN ?_ _ | refine blk_drew ?_ | refine blk_alloc ?_ _)); exact BK126.out⟩, ⟨by repeat (first | (with_reducible first | exact HI114.out | apply IsS41.alloc | apply IsS41.drewN | apply IsS41.drew | refine IsS41.farB ?_ NB114_126.out (by repeat (first | exact ⟨_, _, BK126.out⟩ | apply typ_set | apply typ_alloc | apply typ_drewN | apply typ_drew)) (by decide) _) | exact HI114.out)⟩, ⟨by repeat (first | (with_reducible first | exact HB.out | apply below_alloc | apply pw_below_drewN | apply below_drew1 | refine below_set ?_ (IsS41.ge HI114.out) | refine below_set ?_ GE126.out) | exact HB.out)⟩⟩
                  · replace c29 := Bool.eq_false_iff.mpr c29
                    subst c29
                    have H1 : (manifest_Print.j1 k1 l1 (l1.length : Int) x21_1 true x115000_1 ((rd_T37 l1 x21_1).f0) ((rd_T37 l1 x21_1).f1) ((rd_T37 l1 x21_1).f2) ((rd_T37 l1 x21_1).f3)) = some (r1, r2) := by rw [if_neg (show ¬ (false = true) by decide)] at H; exact H
                    clear H
                    have H := H1
                    clear H1
                    have H' := Aside0.mk H
                    clear H
                    have hnb51 := NB126_114.out
                    have hnc51 := NB114_126.out
                    have hcz52_0 : w23.cell? ⟨gb126, 0, none⟩ = some (.string (⟨#[]⟩ : ByteArray)) := (blk_cell BK126.out 0).trans rfl
                    have hcz52_1 : w23.cell? ⟨gb126, 1, none⟩ = some (.string (⟨#[]⟩ : ByteArray)) := (blk_cell BK126.out 1).trans rfl
                    have hcz52_2 : w23.cell? ⟨gb126, 2, none⟩ = some (.int .i64 0) := (blk_cell BK126.out 2).trans rfl
                    have hcz52_3 : w23.cell? ⟨gb126, 3, none⟩ = some (.int .i64 0) := (blk_cell BK126.out 3).trans rfl
                    have hfz52_0 := blk_frozen BK126.out 0
                    have hfz52_1 := blk_frozen BK126.out 1
                    have hfz52_2 := blk_frozen BK126.out 2
                    have hfz52_3 := blk_frozen BK126.out 3
                    go_wp2_with (first | ((with_reducible refine gate_callee (f := 17) rfl ?_); refine goesL_ (some 27) rfl rfl Tryd.func17 (by kernel_rfl) rfl #[.string ((rd_T37 l1 x21_1).f0)] rfl (by (try simp only [List.map_toArray, List.map_cons, List.map_nil]); first | done | rfl | (simp only [List.length_drop, List.length_take]; rfl)) ?_; (with_reducible refine (manifest_name.calls ((rd_T37 l1 x21_1).f0) true _ A26.out).mono ?_); rintro e w53 ⟨rfl, hb⟩; refine ⟨_, rfl, ?_⟩; have n0_ := Aside0.mk (IsS41.below (show IsS41 w ((((w23.setCell ⟨gb126, 0, none⟩ (.string ((rd_T37 l1 x21_1).f0))).setCell ⟨gb126, 1, none⟩ (.string ((rd_T37 l1 x21_1).f1))).setCell ⟨gb126, 2, none⟩ (.int .i64 ((rd_T37 l1 x21_1).f2))).setCell ⟨gb126, 3, none⟩ (.int .i64 ((rd_T37 l1 x21_1).f3))) gb114 x115000_1 from by repeat (first | (with_reducible first | exact HI114.out | apply IsS41.alloc | apply IsS41.drewN | apply IsS41.drew | refine IsS41.farB ?_ NB114_126.out (by repeat (first | exact ⟨_, _, BK126.out⟩ | apply typ_set | apply typ_alloc | apply typ_drewN | apply typ_drew)) (by decide) _) | exact HI114.out)) hb); have n1_ := Aside0.mk (blk_below (g := gb126) (o := .cells #[.string ((rd_T37 l1 x21_1).f0), .string ((rd_T37 l1 x21_1).f1), .int .i64 ((rd_T37 l1 x21_1).f2), .int .i64 ((rd_T37 l1 x21_1).f3)] 37 (0, 0)) (by (with_reducible repeat (first | refine blk_drewN ?_ _ | refine blk_drew ?_ | refine blk_alloc ?_ _)); refine blk_put (cs := #[.string ((rd_T37 l1 x21_1).f0), .string ((rd_T37 l1 x21_1).f1), .int .i64 ((rd_T37 l1 x21_1).f2), .int .i64 0]) ?_ 3 _ rfl; (with_reducible repeat (first | refine blk_drewN ?_ _ | refine blk_drew ?_ | refine blk_alloc ?_ _)); refine blk_put (cs := #[.string ((rd_T37 l1 x21_1).f0), .string ((rd_T37 l1 x21_1).f1), .int .i64 0, .int .i64 0]) ?_ 2 _ rfl; (with_reducible repeat (first | refine blk_drewN ?_ _ | refine blk_drew ?_ | refine blk_alloc ?_ _)); refine blk_put (cs := #[.string ((rd_T37 l1 x21_1).f0), .string (⟨#[]⟩ : ByteArray), .int .i64 0, .int .i64 0]) ?_ 1 _ rfl; (with_reducible repeat (first | refine blk_drewN ?_ _ | refine blk_drew ?_ | refine blk_alloc ?_ _)); refine blk_put (cs := #[.string (⟨#[]⟩ : ByteArray), .string (⟨#[]⟩ : ByteArray), .int .i64 0, .int .i64 0]) ?_ 0 _ rfl; (with_reducible repeat (first | refine blk_drewN ?_ _ | refine blk_drew ?_ | refine blk_alloc ?_ _)); exact BK126.out) hb); have n2_ := Aside0.mk (below_step (by repeat (first | (with_reducible first | exact HB.out | apply below_alloc | apply pw_below_drewN | apply below_drew1 | refine below_set ?_ (IsS41.ge HI114.out) | refine below_set ?_ GE126.out) | exact HB.out)) hb); clear HI114; clear BK126; clear HB; have HI114 := n0_; have BK126 := n1_; have HB := n2_; clear n0_ n1_ n2_; (try clear hb); (try clear hb2); (try clear hk); (try clear hi); have hcz54_0 : w53.cell? ⟨gb126, 0, none⟩ = some (.string ((rd_T37 l1 x21_1).f0)) := (blk_cell BK126.out 0).trans rfl; have hcz54_1 : w53.cell? ⟨gb126, 1, none⟩ = some (.string ((rd_T37 l1 x21_1).f1)) := (blk_cell BK126.out 1).trans rfl; have hcz54_2 : w53.cell? ⟨gb126, 2, none⟩ = some (.int .i64 ((rd_T37 l1 x21_1).f2)) := (blk_cell BK126.out 2).trans rfl; have hcz54_3 : w53.cell? ⟨gb126, 3, none⟩ = some (.int .i64 ((rd_T37 l1 x21_1).f3)) := (blk_cell BK126.out 3).trans rfl; have hfz54_0 := blk_frozen BK126.out 0; have hfz54_1 := blk_frozen BK126.out 1; have hfz54_2 := blk_frozen BK126.out 2; have hfz54_3 := blk_frozen BK126.out 3) | (go_at_call 17; (with_reducible refine (manifest_name.calls ((rd_T37 l1 x21_1).f1) false _ A28.out).mono ?_); rintro e w55 ⟨rfl, hb⟩; have n0_ := Aside0.mk (IsS41.below (by repeat (first | (with_reducible first | exact HI114.out | apply IsS41.alloc | apply IsS41.drewN | apply IsS41.drew | refine IsS41.farB ?_ NB114_126.out (by repeat (first | exact ⟨_, _, BK126.out⟩ | apply typ_set | apply typ_alloc | apply typ_drewN | apply typ_drew)) (by decide) _) | exact HI114.out)) hb); have n1_ := Aside0.mk (blk_below (g := gb126) (o := .cells #[.string ((rd_T37 l1 x21_1).f0), .string ((rd_T37 l1 x21_1).f1), .int .i64 ((rd_T37 l1 x21_1).f2), .int .i64 ((rd_T37 l1 x21_1).f3)] 37 (0, 0)) (by (with_reducible repeat (first | refine blk_drewN ?_ _ | refine blk_drew ?_ | refine blk_alloc ?_ _)); exact BK126.out) hb); have n2_ := Aside0.mk (below_step (by repeat (first | (with_reducible first | exact HB.out | apply below_alloc | apply pw_below_drewN | apply below_drew1 | refine below_set ?_ (IsS41.ge HI114.out) | refine below_set ?_ GE126.out) | exact HB.out)) hb); clear HI114; clear BK126; clear HB; have HI114 := n0_; have BK126 := n1_; have HB := n2_; clear n0_ n1_ n2_; (try clear hb); (try clear hb2); (try clear hk); (try clear hi)))
                    go_meet
                    case rel => exact ⟨_, (true), (by first | rfl | (simp; done) | (simp [*]; done)), H', ⟨by have := HK1.out; first | omega | exact Nat.le_refl _⟩, ⟨by (with_reducible repeat (first | refine blk_drewN ?_ _ | refine blk_drew ?_ | refine blk_alloc ?_ _)); exact BK126.out⟩, ⟨by repeat (first | (with_reducible first | exact HI114.out | apply IsS41.alloc | apply IsS41.drewN | apply IsS41.drew | refine IsS41.farB ?_ NB114_126.out (by repeat (first | exact ⟨_, _, BK126.out⟩ | apply typ_set | apply typ_alloc | apply typ_drewN | apply typ_drew)) (by decide) _) | exact HI114.out)⟩, ⟨by repeat (first | (with_reducible first | exact HB.out | apply below_alloc | apply pw_below_drewN | apply below_drew1 | refine below_set ?_ (IsS41.ge HI114.out) | refine below_set ?_ GE126.out) | exact HB.out)⟩⟩
                · replace c27 := Bool.eq_false_iff.mpr c27
                  subst c27
                  have H1 : (manifest_Print.j1 k1 l1 (l1.length : Int) x21_1 true x115000_1 ((rd_T37 l1 x21_1).f0) ((rd_T37 l1 x21_1).f1) ((rd_T37 l1 x21_1).f2) ((rd_T37 l1 x21_1).f3)) = some (r1, r2) := by rw [if_neg (show ¬ (false = true) by decide)] at H; exact H
                  clear H
                  have H := H1
                  clear H1
                  have H' := Aside0.mk H
                  clear H
                  have hnb56 := NB126_114.out
                  have hnc56 := NB114_126.out
                  have hcz57_0 : w23.cell? ⟨gb126, 0, none⟩ = some (.string (⟨#[]⟩ : ByteArray)) := (blk_cell BK126.out 0).trans rfl
                  have hcz57_1 : w23.cell? ⟨gb126, 1, none⟩ = some (.string (⟨#[]⟩ : ByteArray)) := (blk_cell BK126.out 1).trans rfl
                  have hcz57_2 : w23.cell? ⟨gb126, 2, none⟩ = some (.int .i64 0) := (blk_cell BK126.out 2).trans rfl
                  have hcz57_3 : w23.cell? ⟨gb126, 3, none⟩ = some (.int .i64 0) := (blk_cell BK126.out 3).trans rfl
                  have hfz57_0 := blk_frozen BK126.out 0
                  have hfz57_1 := blk_frozen BK126.out 1
                  have hfz57_2 := blk_frozen BK126.out 2
                  have hfz57_3 := blk_frozen BK126.out 3
                  go_wp2_with (first | ((with_reducible refine gate_callee (f := 17) rfl ?_); refine goesL_ (some 27) rfl rfl Tryd.func17 (by kernel_rfl) rfl #[.string ((rd_T37 l1 x21_1).f0)] rfl (by (try simp only [List.map_toArray, List.map_cons, List.map_nil]); first | done | rfl | (simp only [List.length_drop, List.length_take]; rfl)) ?_; (with_reducible refine (manifest_name.calls ((rd_T37 l1 x21_1).f0) false _ A26.out).mono ?_); rintro e w58 ⟨rfl, hb⟩; refine ⟨_, rfl, ?_⟩; have n0_ := Aside0.mk (IsS41.below (show IsS41 w ((((w23.setCell ⟨gb126, 0, none⟩ (.string ((rd_T37 l1 x21_1).f0))).setCell ⟨gb126, 1, none⟩ (.string ((rd_T37 l1 x21_1).f1))).setCell ⟨gb126, 2, none⟩ (.int .i64 ((rd_T37 l1 x21_1).f2))).setCell ⟨gb126, 3, none⟩ (.int .i64 ((rd_T37 l1 x21_1).f3))) gb114 x115000_1 from by repeat (first | (with_reducible first | exact HI114.out | apply IsS41.alloc | apply IsS41.drewN | apply IsS41.drew | refine IsS41.farB ?_ NB114_126.out (by repeat (first | exact ⟨_, _, BK126.out⟩ | apply typ_set | apply typ_alloc | apply typ_drewN | apply typ_drew)) (by decide) _) | exact HI114.out)) hb); have n1_ := Aside0.mk (blk_below (g := gb126) (o := .cells #[.string ((rd_T37 l1 x21_1).f0), .string ((rd_T37 l1 x21_1).f1), .int .i64 ((rd_T37 l1 x21_1).f2), .int .i64 ((rd_T37 l1 x21_1).f3)] 37 (0, 0)) (by (with_reducible repeat (first | refine blk_drewN ?_ _ | refine blk_drew ?_ | refine blk_alloc ?_ _)); refine blk_put (cs := #[.string ((rd_T37 l1 x21_1).f0), .string ((rd_T37 l1 x21_1).f1), .int .i64 ((rd_T37 l1 x21_1).f2), .int .i64 0]) ?_ 3 _ rfl; (with_reducible repeat (first | refine blk_drewN ?_ _ | refine blk_drew ?_ | refine blk_alloc ?_ _)); refine blk_put (cs := #[.string ((rd_T37 l1 x21_1).f0), .string ((rd_T37 l1 x21_1).f1), .int .i64 0, .int .i64 0]) ?_ 2 _ rfl; (with_reducible repeat (first | refine blk_drewN ?_ _ | refine blk_drew ?_ | refine blk_alloc ?_ _)); refine blk_put (cs := #[.string ((rd_T37 l1 x21_1).f0), .string (⟨#[]⟩ : ByteArray), .int .i64 0, .int .i64 0]) ?_ 1 _ rfl; (with_reducible repeat (first | refine blk_drewN ?_ _ | refine blk_drew ?_ | refine blk_alloc ?_ _)); refine blk_put (cs := #[.string (⟨#[]⟩ : ByteArray), .string (⟨#[]⟩ : ByteArray), .int .i64 0, .int .i64 0]) ?_ 0 _ rfl; (with_reducible repeat (first | refine blk_drewN ?_ _ | refine blk_drew ?_ | refine blk_alloc ?_ _)); exact BK126.out) hb); have n2_ := Aside0.mk (below_step (by repeat (first | (with_reducible first | exact HB.out | apply below_alloc | apply pw_below_drewN | apply below_drew1 | refine below_set ?_ (IsS41.ge HI114.out) | refine below_set ?_ GE126.out) | exact HB.out)) hb); clear HI114; clear BK126; clear HB; have HI114 := n0_; have BK126 := n1_; have HB := n2_; clear n0_ n1_ n2_; (try clear hb); (try clear hb2); (try clear hk); (try clear hi)))
                  go_meet
                  case rel => exact ⟨_, (true), (by first | rfl | (simp; done) | (simp [*]; done)), H', ⟨by have := HK1.out; first | omega | exact Nat.le_refl _⟩, ⟨by (with_reducible repeat (first | refine blk_drewN ?_ _ | refine blk_drew ?_ | refine blk_alloc ?_ _)); exact BK126.out⟩, ⟨by repeat (first | (with_reducible first | exact HI114.out | apply IsS41.alloc | apply IsS41.drewN | apply IsS41.drew | refine IsS41.farB ?_ NB114_126.out (by repeat (first | exact ⟨_, _, BK126.out⟩ | apply typ_set | apply typ_alloc | apply typ_drewN | apply typ_drew)) (by decide) _) | exact HI114.out)⟩, ⟨by repeat (first | (with_reducible first | exact HB.out | apply below_alloc | apply pw_below_drewN | apply below_drew1 | refine below_set ?_ (IsS41.ge HI114.out) | refine below_set ?_ GE126.out) | exact HB.out)⟩⟩
              case rest =>
                clear HC22
                try clear c1
                try clear p1
                try clear q1
                try clear hx1
                try clear c2
                try clear p2
                try clear c3
                try clear c4
                try clear c5
                try clear c9
                try clear p12
                try clear q12
                try clear hx12
                try clear c14
                try clear c15
                try clear c16
                try clear c17
                try clear c19
                try clear c19b0
                try clear c20
                try clear c20b0
                try clear c21
                try clear c21b0
                try clear c24
                try clear c27
                try clear c29
                try clear c31
                try clear c32
                try clear c42
                try clear c51
                try clear c56
                try clear hcz25_0
                try clear hcz25_1
                try clear hcz25_2
                try clear hcz25_3
                try clear hcz33_0
                try clear hcz33_1
                try clear hcz33_2
                try clear hcz33_3
                try clear hcz35_0
                try clear hcz35_1
                try clear hcz35_2
                try clear hcz35_3
                try clear hcz37_0
                try clear hcz37_1
                try clear hcz37_2
                try clear hcz37_3
                try clear hcz41_0
                try clear hcz41_1
                try clear hcz41_2
                try clear hcz41_3
                try clear hcz43_0
                try clear hcz43_1
                try clear hcz43_2
                try clear hcz43_3
                try clear hcz45_0
                try clear hcz45_1
                try clear hcz45_2
                try clear hcz45_3
                try clear hcz47_0
                try clear hcz47_1
                try clear hcz47_2
                try clear hcz47_3
                try clear hcz52_0
                try clear hcz52_1
                try clear hcz52_2
                try clear hcz52_3
                try clear hcz54_0
                try clear hcz54_1
                try clear hcz54_2
                try clear hcz54_3
                try clear hcz57_0
                try clear hcz57_1
                try clear hcz57_2
                try clear hcz57_3
                try clear hfz25_0
                try clear hfz25_1
                try clear hfz25_2
                try clear hfz25_3
                try clear hfz33_0
                try clear hfz33_1
                try clear hfz33_2
                try clear hfz33_3
                try clear hfz35_0
                try clear hfz35_1
                try clear hfz35_2
                try clear hfz35_3
                try clear hfz37_0
                try clear hfz37_1
                try clear hfz37_2
                try clear hfz37_3
                try clear hfz41_0
                try clear hfz41_1
                try clear hfz41_2
                try clear hfz41_3
                try clear hfz43_0
                try clear hfz43_1
                try clear hfz43_2
                try clear hfz43_3
                try clear hfz45_0
                try clear hfz45_1
                try clear hfz45_2
                try clear hfz45_3
                try clear hfz47_0
                try clear hfz47_1
                try clear hfz47_2
                try clear hfz47_3
                try clear hfz52_0
                try clear hfz52_1
                try clear hfz52_2
                try clear hfz52_3
                try clear hfz54_0
                try clear hfz54_1
                try clear hfz54_2
                try clear hfz54_3
                try clear hfz57_0
                try clear hfz57_1
                try clear hfz57_2
                try clear hfz57_3
                try clear hx125_0
                try clear hx125_1
                try clear hx125_2
                try clear hx125_3
                try clear p125
                try clear p2
                try clear q125
                obtain ⟨kq, x49_21, rfl, HA, HJ21, BK126, HI114, HB⟩ := hcut
                cases kq with
                | zero => exact absurd HA.out (by simp [manifest_Print.j1])
                | succ kj21 =>
                  have H := HA.out
                  clear HA
                  simp only [manifest_Print.j1] at H
                  by_cases c59 : x49_21 = true
                  · subst c59
                    have H1 : (some ((⟨#[]⟩ : ByteArray), 30)) = some (r1, r2) := by rw [if_pos rfl] at H; exact H
                    clear H
                    have H := H1
                    clear H1
                    simp only [Option.some.injEq, Prod.mk.injEq] at H
                    obtain ⟨rfl, rfl⟩ := H
                    go_wp2
                    go_ret2
                    exact ⟨by first | rfl | (simp [errW_none, errW_some] <;> rfl) | (simp [*, errW_none, errW_some] <;> rfl), by repeat (first | (with_reducible first | exact HB.out | apply below_alloc | apply pw_below_drewN | apply below_drew1 | refine below_set ?_ (IsS41.ge HI114.out) | refine below_set ?_ GE126.out) | exact HB.out)⟩
                  · replace c59 := Bool.eq_false_iff.mpr c59
                    subst c59
                    have H1 : ((manifest_line.f kj21 (([((rd_T37 l1 x21_1).f0), ((rd_T37 l1 x21_1).f1)] : List ByteArray)) (([((rd_T37 l1 x21_1).f2), ((rd_T37 l1 x21_1).f3)] : List Int))).bind fun t139 => ((Builder_WriteString.f x115000_1 t139).bind fun bt140 => (manifest_Print.l0 kj21 ((rd_T37 l1 x21_1).f0) l1 (l1.length : Int) (wrap64 (x21_1 + 1)) bt140.2.2))) = some (r1, r2) := by rw [if_neg (show ¬ (false = true) by decide)] at H; exact H
                    clear H
                    have H := H1
                    clear H1
                    obtain ⟨y133, hy133⟩ : ∃ y_ : List ByteArray, y_ = (([((rd_T37 l1 x21_1).f0), ((rd_T37 l1 x21_1).f1)] : List ByteArray)) := ⟨_, rfl⟩
                    replace H : ((manifest_line.f kj21 y133 (([((rd_T37 l1 x21_1).f2), ((rd_T37 l1 x21_1).f3)] : List Int))).bind fun t139 => ((Builder_WriteString.f x115000_1 t139).bind fun bt140 => (manifest_Print.l0 kj21 ((rd_T37 l1 x21_1).f0) l1 (l1.length : Int) (wrap64 (x21_1 + 1)) bt140.2.2))) = some (r1, r2) := by first | (rw [hy133]; with_reducible exact H) | (have H2_ := (Option.bind_some _ _).symm.trans H; rw [hy133]; with_reducible exact H2_) | (have H2_ := (Option.bind_some _ _).symm.trans H; with_reducible exact H2_) | with_reducible exact H | (rw [hy133]; exact H) | exact H
                    have Ny133 := Aside0.mk hy133
                    clear hy133
                    obtain ⟨y136, hy136⟩ : ∃ y_ : List Int, y_ = (([((rd_T37 l1 x21_1).f2), ((rd_T37 l1 x21_1).f3)] : List Int)) := ⟨_, rfl⟩
                    replace H : ((manifest_line.f kj21 y133 y136).bind fun t139 => ((Builder_WriteString.f x115000_1 t139).bind fun bt140 => (manifest_Print.l0 kj21 ((rd_T37 l1 x21_1).f0) l1 (l1.length : Int) (wrap64 (x21_1 + 1)) bt140.2.2))) = some (r1, r2) := by first | (rw [hy136]; with_reducible exact H) | (have H2_ := (Option.bind_some _ _).symm.trans H; rw [hy136]; with_reducible exact H2_) | (have H2_ := (Option.bind_some _ _).symm.trans H; with_reducible exact H2_) | with_reducible exact H | (rw [hy136]; exact H) | exact H
                    have Ny136 := Aside0.mk hy136
                    clear hy136
                    replace H := Option.bind_eq_some_iff.mp H
                    obtain ⟨t139, A600, H⟩ := H
                    replace H : ((Builder_WriteString.f x115000_1 t139).bind fun bt140 => (manifest_Print.l0 kj21 ((rd_T37 l1 x21_1).f0) l1 (l1.length : Int) (wrap64 (x21_1 + 1)) bt140.2.2)) = some (r1, r2) := H
                    have A60 := Aside0.mk A600
                    clear A600
                    replace H := Option.bind_eq_some_iff.mp H
                    obtain ⟨⟨t140, t141, t142⟩, A610, H⟩ := H
                    replace H : (manifest_Print.l0 kj21 ((rd_T37 l1 x21_1).f0) l1 (l1.length : Int) (wrap64 (x21_1 + 1)) t142) = some (r1, r2) := H
                    have A61 := Aside0.mk A610
                    clear A610
                    have H' := Aside0.mk H
                    clear H
                    have hnb62 := NB126_114.out
                    have hnc62 := NB114_126.out
                    have hcz63_0 : wc.cell? ⟨gb126, 0, none⟩ = some (.string ((rd_T37 l1 x21_1).f0)) := (blk_cell BK126.out 0).trans rfl
                    have hcz63_1 : wc.cell? ⟨gb126, 1, none⟩ = some (.string ((rd_T37 l1 x21_1).f1)) := (blk_cell BK126.out 1).trans rfl
                    have hcz63_2 : wc.cell? ⟨gb126, 2, none⟩ = some (.int .i64 ((rd_T37 l1 x21_1).f2)) := (blk_cell BK126.out 2).trans rfl
                    have hcz63_3 : wc.cell? ⟨gb126, 3, none⟩ = some (.int .i64 ((rd_T37 l1 x21_1).f3)) := (blk_cell BK126.out 3).trans rfl
                    have hfz63_0 := blk_frozen BK126.out 0
                    have hfz63_1 := blk_frozen BK126.out 1
                    have hfz63_2 := blk_frozen BK126.out 2
                    have hfz63_3 := blk_frozen BK126.out 3
                    go_wp2_with (first | ((with_reducible refine gate_dst (N := 56) rfl ?_); (try (refine gate_guard (by rfl) ?_; dsimp only)); refine Kd.R_lit Kd.string _ 9 ?hg (N := 56) ?hd (xs := ([((rd_T37 l1 x21_1).f0), ((rd_T37 l1 x21_1).f1)] : List ByteArray)) (inner := [.string ((rd_T37 l1 x21_1).f0), .string ((rd_T37 l1 x21_1).f1)]) (ok := fun _ => True) (okp := fun _ => True) ?hr ?hp (fun _ hk => hk) trivial (Below.refl _ _) (Nat.le_refl _) (by simp) ?_; (case hd => rfl); (case hg => rfl); (case hr => first | (go_simp; done) | (go_simp; rfl)); (case hp => exact (Reps.one (show Kd.M Kd.string _ _ _ ((rd_T37 l1 x21_1).f0) [.string ((rd_T37 l1 x21_1).f0)] from rfl) (Reps.one (show Kd.M Kd.string _ _ _ ((rd_T37 l1 x21_1).f1) [.string ((rd_T37 l1 x21_1).f1)] from rfl) (Reps.none _ _)))); intro v134 w64 ho65 hb hg_ hnew_; clear hg_ hnew_; (first | rw [← Ny133.out] at ho65 | (simp only [Int.reduceToNat] at ho65; rw [← Ny133.out] at ho65)); have n0_ := Aside0.mk (Kd.R_lower ho65 (below_size (by repeat (first | (with_reducible first | exact HB.out | apply below_alloc | apply pw_below_drewN | apply below_drew1 | refine below_set ?_ (IsS41.ge HI114.out) | refine below_set ?_ GE126.out) | exact HB.out)))); have n1_ := Aside0.mk (blk_below (g := gb126) (o := .cells #[.string ((rd_T37 l1 x21_1).f0), .string ((rd_T37 l1 x21_1).f1), .int .i64 ((rd_T37 l1 x21_1).f2), .int .i64 ((rd_T37 l1 x21_1).f3)] 37 (0, 0)) (by (with_reducible repeat (first | refine blk_drewN ?_ _ | refine blk_drew ?_ | refine blk_alloc ?_ _)); exact BK126.out) hb); have n2_ := Aside0.mk (IsS41.below (by repeat (first | (with_reducible first | exact HI114.out | apply IsS41.alloc | apply IsS41.drewN | apply IsS41.drew | refine IsS41.farB ?_ NB114_126.out (by repeat (first | exact ⟨_, _, BK126.out⟩ | apply typ_set | apply typ_alloc | apply typ_drewN | apply typ_drew)) (by decide) _) | exact HI114.out)) hb); have n3_ := Aside0.mk (below_step (by repeat (first | (with_reducible first | exact HB.out | apply below_alloc | apply pw_below_drewN | apply below_drew1 | refine below_set ?_ (IsS41.ge HI114.out) | refine below_set ?_ GE126.out) | exact HB.out)) hb); clear BK126; clear HI114; clear HB; have HO135 := n0_; have BK126 := n1_; have HI114 := n2_; have HB := n3_; clear n0_ n1_ n2_ n3_; clear hb ho65; have hcz66_0 : w64.cell? ⟨gb126, 0, none⟩ = some (.string ((rd_T37 l1 x21_1).f0)) := (blk_cell BK126.out 0).trans rfl; have hcz66_1 : w64.cell? ⟨gb126, 1, none⟩ = some (.string ((rd_T37 l1 x21_1).f1)) := (blk_cell BK126.out 1).trans rfl; have hcz66_2 : w64.cell? ⟨gb126, 2, none⟩ = some (.int .i64 ((rd_T37 l1 x21_1).f2)) := (blk_cell BK126.out 2).trans rfl; have hcz66_3 : w64.cell? ⟨gb126, 3, none⟩ = some (.int .i64 ((rd_T37 l1 x21_1).f3)) := (blk_cell BK126.out 3).trans rfl; have hfz66_0 := blk_frozen BK126.out 0; have hfz66_1 := blk_frozen BK126.out 1; have hfz66_2 := blk_frozen BK126.out 2; have hfz66_3 := blk_frozen BK126.out 3) | ((with_reducible refine gate_dst (N := 61) rfl ?_); (try (refine gate_guard (by rfl) ?_; dsimp only)); refine Kd.R_lit (Kd.int .i64) _ 3 ?hg (N := 61) ?hd (xs := ([((rd_T37 l1 x21_1).f2), ((rd_T37 l1 x21_1).f3)] : List Int)) (inner := [.int .i64 ((rd_T37 l1 x21_1).f2), .int .i64 ((rd_T37 l1 x21_1).f3)]) (ok := fun _ => True) (okp := fun _ => True) ?hr ?hp (fun _ hk => hk) trivial (Below.refl _ _) (Nat.le_refl _) (by simp) ?_; (case hd => rfl); (case hg => rfl); (case hr => first | (go_simp; done) | (go_simp; rfl)); (case hp => exact (Reps.one (show Kd.M (Kd.int .i64) _ _ _ ((rd_T37 l1 x21_1).f2) [.int .i64 ((rd_T37 l1 x21_1).f2)] from rfl) (Reps.one (show Kd.M (Kd.int .i64) _ _ _ ((rd_T37 l1 x21_1).f3) [.int .i64 ((rd_T37 l1 x21_1).f3)] from rfl) (Reps.none _ _)))); intro v137 w67 ho68 hb hg_ hnew_; clear hg_ hnew_; (first | rw [← Ny136.out] at ho68 | (simp only [Int.reduceToNat] at ho68; rw [← Ny136.out] at ho68)); have n0_ := Aside0.mk (Kd.R_below (by (with_reducible repeat (first | apply Kd.R_alloc | apply Kd.R_drewN | apply Kd.R_drew)); exact HO135.out) hb); have n1_ := Aside0.mk (Kd.R_lower ho68 (below_size (by repeat (first | (with_reducible first | exact HB.out | apply below_alloc | apply pw_below_drewN | apply below_drew1 | refine below_set ?_ (IsS41.ge HI114.out) | refine below_set ?_ GE126.out) | exact HB.out)))); have n2_ := Aside0.mk (blk_below (g := gb126) (o := .cells #[.string ((rd_T37 l1 x21_1).f0), .string ((rd_T37 l1 x21_1).f1), .int .i64 ((rd_T37 l1 x21_1).f2), .int .i64 ((rd_T37 l1 x21_1).f3)] 37 (0, 0)) (by (with_reducible repeat (first | refine blk_drewN ?_ _ | refine blk_drew ?_ | refine blk_alloc ?_ _)); exact BK126.out) hb); have n3_ := Aside0.mk (IsS41.below (by repeat (first | (with_reducible first | exact HI114.out | apply IsS41.alloc | apply IsS41.drewN | apply IsS41.drew | refine IsS41.farB ?_ NB114_126.out (by repeat (first | exact ⟨_, _, BK126.out⟩ | apply typ_set | apply typ_alloc | apply typ_drewN | apply typ_drew)) (by decide) _) | exact HI114.out)) hb); have n4_ := Aside0.mk (below_step (by repeat (first | (with_reducible first | exact HB.out | apply below_alloc | apply pw_below_drewN | apply below_drew1 | refine below_set ?_ (IsS41.ge HI114.out) | refine below_set ?_ GE126.out) | exact HB.out)) hb); clear HO135; clear BK126; clear HI114; clear HB; have HO135 := n0_; have HO138 := n1_; have BK126 := n2_; have HI114 := n3_; have HB := n4_; clear n0_ n1_ n2_ n3_ n4_; clear hb ho68; obtain ⟨Ao69, co69, eo69⟩ := Kd.R_slice HO135.out; subst eo69; obtain ⟨Ao70, co70, eo70⟩ := Kd.R_slice HO138.out; subst eo70) | ((with_reducible refine gate_callee (f := 16) rfl ?_); refine goesL_ (some 62) rfl rfl Tryd.func16 (by kernel_rfl) rfl #[.slice Ao69 y133.length co69, .slice Ao70 y136.length co70] rfl (by (try simp only [List.map_toArray, List.map_cons, List.map_nil]); first | done | rfl | (simp only [List.length_drop, List.length_take]; rfl)) ?_; (with_reducible refine (manifest_line.calls kj21 (fun k_ => some k_ = (.slice Ao69 y133.length co69 : Value).ownBlock) (.slice Ao69 y133.length co69) y133 _ _ y136 t139 w _ ?side1 ?side2 ?side3 ?side4 ?side5 A60.out).mono ?_); (case side1 => repeat (first | (with_reducible first | exact HB.out | apply below_alloc | apply pw_below_drewN | apply below_drew1 | refine below_set ?_ (IsS41.ge HI114.out) | refine below_set ?_ GE126.out) | exact HB.out)); (case side2 => exact Kd.R_tight rfl HO135.out); (case side3 => exact Kd.C_kept_own ((Kd.R_apart' HO138.out (Kd.R_typed HO135.out) (by decide))) (fun k_ hk_ hs_ => (hk_.2) hs_)); (case side4 => exact (Kd.R_reads' HO138.out).2.1); (case side5 => exact hGA.out); rintro e w71 ⟨rfl, hb, hkp⟩; refine ⟨_, rfl, ?_⟩; have n0_ := Aside0.mk (blk_kept (by (with_reducible repeat (first | refine blk_drewN ?_ _ | refine blk_drew ?_ | refine blk_alloc ?_ _)); exact BK126.out) hkp (fun hs_ => (fun e_ => (Kd.R_ne HO135.out BK126.out (by decide)) e_) hs_)); have n1_ := Aside0.mk (IsS41.kept (by repeat (first | (with_reducible first | exact HI114.out | apply IsS41.alloc | apply IsS41.drewN | apply IsS41.drew | refine IsS41.farB ?_ NB114_126.out (by repeat (first | exact ⟨_, _, BK126.out⟩ | apply typ_set | apply typ_alloc | apply typ_drewN | apply typ_drew)) (by decide) _) | exact HI114.out)) hkp (fun k_ hs_ => (fun e_ => IsS41.own_far HI114.out HO135.out (by decide) k_ e_.symm) hs_)); have n2_ := Aside0.mk (Kd.R_mono (ok' := fun k_ => True) (Kd.R_keptB ((Kd.R_apart' HO138.out (Kd.R_typed HO135.out) (by decide))) hkp (fun k_ hk_ hs_ => (hk_.2) hs_)) (fun k_ hk_ => trivial)); have n3_ := Aside0.mk (hb); clear BK126; clear HI114; clear HO138; clear HB; clear HO135; have BK126 := n0_; have HI114 := n1_; have HO138 := n2_; have HB := n3_; clear n0_ n1_ n2_ n3_; (try clear hb); (try clear hkp)) | ((with_reducible refine gate_callee (f := 15) rfl ?_); refine goesL_ (some 63) rfl rfl Tryd.func15 (by kernel_rfl) rfl #[.pointer (some ⟨gb114, 0, none⟩), .string t139] rfl (by (try simp only [List.map_toArray, List.map_cons, List.map_nil]); first | done | rfl | (simp only [List.length_drop, List.length_take]; rfl)) ?_; (with_reducible refine (Builder_WriteString.calls gb114 x115000_1 t139 t140 t141 t142 w _ ?side1 ?side2 A61.out).mono ?_); (case side1 => repeat (first | (with_reducible first | exact HI114.out | apply IsS41.alloc | apply IsS41.drewN | apply IsS41.drew | refine IsS41.farB ?_ NB114_126.out (by repeat (first | exact ⟨_, _, BK126.out⟩ | apply typ_set | apply typ_alloc | apply typ_drewN | apply typ_drew)) (by decide) _) | exact HI114.out)); (case side2 => repeat (first | (with_reducible first | exact HB.out | apply below_alloc | apply pw_below_drewN | apply below_drew1 | refine below_set ?_ (IsS41.ge HI114.out) | refine below_set ?_ GE126.out) | exact HB.out)); rintro e w72 ⟨rfl, hi, hb, hk⟩; refine ⟨_, rfl, ?_⟩; have n0_ := Aside0.mk (blk_keepO hk (g := gb126) (o := .cells #[.string ((rd_T37 l1 x21_1).f0), .string ((rd_T37 l1 x21_1).f1), .int .i64 ((rd_T37 l1 x21_1).f2), .int .i64 ((rd_T37 l1 x21_1).f3)] 37 (0, 0)) (by (with_reducible repeat (first | refine blk_drewN ?_ _ | refine blk_drew ?_ | refine blk_alloc ?_ _)); exact BK126.out) rfl (by decide) NB126_114.out); have n1_ := Aside0.mk (Kd.R_mono (R_keepB (IsS41.apart (show IsS41 w _ gb114 x115000_1 from by repeat (first | (with_reducible first | exact HI114.out | apply IsS41.alloc | apply IsS41.drewN | apply IsS41.drew | refine IsS41.farB ?_ NB114_126.out (by repeat (first | exact ⟨_, _, BK126.out⟩ | apply typ_set | apply typ_alloc | apply typ_drewN | apply typ_drew)) (by decide) _) | exact HI114.out)) (by (with_reducible repeat (first | apply Kd.R_alloc | apply Kd.R_drewN | apply Kd.R_drew)); exact HO138.out) (by decide)) hk (by decide)) (fun _ h => h.1)); have n2_ := Aside0.mk (hb); have n3_ := Aside0.mk (hi); clear BK126; clear HO138; clear HB; clear HI114; have BK126 := n0_; have HO138 := n1_; have HB := n2_; have HI114 := n3_; clear n0_ n1_ n2_ n3_; (try clear hb); (try clear hk); (try clear hi); (try simp only [errW_none, errW_some])))
                    go_roundg kj21
                    case measure => have := HK1.out; have := HJ21.out; omega
                    case rel => exact ⟨(((rd_T37 l1 x21_1).f0)), (wrap64 (x21_1 + 1)), (t142), (by first | rfl | (simp; done) | (simp [*]; done)), (by first | rfl | (simp; done) | (simp [*]; done)), H', ⟨by have := HK1.out; have := HJ21.out; omega⟩, ⟨by repeat (first | (with_reducible first | exact HI114.out | apply IsS41.alloc | apply IsS41.drewN | apply IsS41.drew | refine IsS41.farB ?_ NB114_126.out (by repeat (first | exact ⟨_, _, BK126.out⟩ | apply typ_set | apply typ_alloc | apply typ_drewN | apply typ_drew)) (by decide) _) | exact HI114.out)⟩, ⟨by repeat (first | (with_reducible first | exact HB.out | apply below_alloc | apply pw_below_drewN | apply below_drew1 | refine below_set ?_ (IsS41.ge HI114.out) | refine below_set ?_ GE126.out) | exact HB.out)⟩⟩
            · rw [if_neg c21] at H
              exact absurd H (by simp)
          · rw [if_neg c20] at H
            exact absurd H (by simp)
        · rw [if_neg c19] at H
          have c19b0 : decide (x21_1 < (l1.length : Int)) = false := decide_eq_false c19
          clear c19
          replace H := Option.bind_eq_some_iff.mp H
          obtain ⟨⟨t143, t144⟩, A730, H⟩ := H
          replace H : ((Builder_String.f t144).bind fun bt148 => ((adler_Sum.f bt148.1).bind fun t150 => ((manifest_line.f k1 (([(⟨#[115, 117, 109]⟩ : ByteArray)] : List ByteArray)) (([t150] : List Int))).bind fun t154 => (if t143.size + t154.size ≤ 9223372036854775807 then (some (t143 ++ t154, 0)) else (none))))) = some (r1, r2) := H
          have A73 := Aside0.mk A730
          clear A730
          obtain ⟨y145, hy145⟩ : ∃ y_ : List ByteArray, y_ = (([(⟨#[115, 117, 109]⟩ : ByteArray)] : List ByteArray)) := ⟨_, rfl⟩
          replace H : ((Builder_String.f t144).bind fun bt148 => ((adler_Sum.f bt148.1).bind fun t150 => ((manifest_line.f k1 y145 (([t150] : List Int))).bind fun t154 => (if t143.size + t154.size ≤ 9223372036854775807 then (some (t143 ++ t154, 0)) else (none))))) = some (r1, r2) := by first | (rw [hy145]; with_reducible exact H) | (have H2_ := (Option.bind_some _ _).symm.trans H; rw [hy145]; with_reducible exact H2_) | (have H2_ := (Option.bind_some _ _).symm.trans H; with_reducible exact H2_) | with_reducible exact H | (rw [hy145]; exact H) | exact H
          have Ny145 := Aside0.mk hy145
          clear hy145
          replace H := Option.bind_eq_some_iff.mp H
          obtain ⟨⟨t148, t149⟩, A740, H⟩ := H
          replace H : ((adler_Sum.f t148).bind fun t150 => ((manifest_line.f k1 y145 (([t150] : List Int))).bind fun t154 => (if t143.size + t154.size ≤ 9223372036854775807 then (some (t143 ++ t154, 0)) else (none)))) = some (r1, r2) := H
          have A74 := Aside0.mk A740
          clear A740
          replace H := Option.bind_eq_some_iff.mp H
          obtain ⟨t150, A750, H⟩ := H
          replace H : ((manifest_line.f k1 y145 (([t150] : List Int))).bind fun t154 => (if t143.size + t154.size ≤ 9223372036854775807 then (some (t143 ++ t154, 0)) else (none))) = some (r1, r2) := H
          have A75 := Aside0.mk A750
          clear A750
          obtain ⟨y151, hy151⟩ : ∃ y_ : List Int, y_ = (([t150] : List Int)) := ⟨_, rfl⟩
          replace H : ((manifest_line.f k1 y145 y151).bind fun t154 => (if t143.size + t154.size ≤ 9223372036854775807 then (some (t143 ++ t154, 0)) else (none))) = some (r1, r2) := by first | (rw [hy151]; with_reducible exact H) | (have H2_ := (Option.bind_some _ _).symm.trans H; rw [hy151]; with_reducible exact H2_) | (have H2_ := (Option.bind_some _ _).symm.trans H; with_reducible exact H2_) | with_reducible exact H | (rw [hy151]; exact H) | exact H
          have Ny151 := Aside0.mk hy151
          clear hy151
          replace H := Option.bind_eq_some_iff.mp H
          obtain ⟨t154, A760, H⟩ := H
          replace H : (if t143.size + t154.size ≤ 9223372036854775807 then (some (t143 ++ t154, 0)) else (none)) = some (r1, r2) := H
          have A76 := Aside0.mk A760
          clear A760
          by_cases c77 : t143.size + t154.size ≤ 9223372036854775807
          · rw [if_pos c77] at H
            have c77b0 := eq_true c77
            have c77b1 : decide (t143.size + t154.size ≤ 9223372036854775807) = true := decide_eq_true c77
            try have c77b2 : (9223372036854775807 < t143.size + t154.size) = False := eq_false (Nat.not_lt.2 c77)
            simp only [Option.some.injEq, Prod.mk.injEq] at H
            obtain ⟨rfl, rfl⟩ := H
            go_wp2_with (first | ((with_reducible refine gate_callee (f := 18) rfl ?_); refine goesL_ (some 65) rfl rfl Tryd.func18 (by kernel_rfl) rfl #[.pointer (some ⟨gb114, 0, none⟩)] rfl (by (try simp only [List.map_toArray, List.map_cons, List.map_nil]); first | done | rfl | (simp only [List.length_drop, List.length_take]; rfl)) ?_; (with_reducible refine (Builder_String.calls gb114 x115000_1 t143 t144 w _ ?side1 ?side2 A73.out).mono ?_); (case side1 => repeat (first | (with_reducible first | exact HI114.out | apply IsS41.alloc | apply IsS41.drewN | apply IsS41.drew) | exact HI114.out)); (case side2 => repeat (first | (with_reducible first | exact HB.out | apply below_alloc | apply pw_below_drewN | apply below_drew1 | refine below_set ?_ (IsS41.ge HI114.out)) | exact HB.out)); rintro e w78 ⟨rfl, hi, hb, hk⟩; refine ⟨_, rfl, ?_⟩; have n0_ := Aside0.mk (hb); have n1_ := Aside0.mk (hi); clear HB; clear HI114; have HB := n0_; have HI114 := n1_; clear n0_ n1_; (try clear hb); (try clear hk); (try clear hi)) | ((with_reducible refine gate_dst (N := 66) rfl ?_); (try (refine gate_guard (by rfl) ?_; dsimp only)); refine Kd.R_lit Kd.string _ 9 ?hg (N := 66) ?hd (xs := ([(⟨#[115, 117, 109]⟩ : ByteArray)] : List ByteArray)) (inner := [.string (⟨#[115, 117, 109]⟩ : ByteArray)]) (ok := fun _ => True) (okp := fun _ => True) ?hr ?hp (fun _ hk => hk) trivial (Below.refl _ _) (Nat.le_refl _) (by simp) ?_; (case hd => rfl); (case hg => rfl); (case hr => first | (go_simp; done) | (go_simp; rfl)); (case hp => exact (Reps.one (show Kd.M Kd.string _ _ _ (⟨#[115, 117, 109]⟩ : ByteArray) [.string (⟨#[115, 117, 109]⟩ : ByteArray)] from rfl) (Reps.none _ _))); intro v146 w79 ho80 hb hg_ hnew_; clear hg_ hnew_; (first | rw [← Ny145.out] at ho80 | (simp only [Int.reduceToNat] at ho80; rw [← Ny145.out] at ho80)); have n0_ := Aside0.mk (Kd.R_lower ho80 (below_size (by repeat (first | (with_reducible first | exact HB.out | apply below_alloc | apply pw_below_drewN | apply below_drew1 | refine below_set ?_ (IsS41.ge HI114.out)) | exact HB.out)))); have n1_ := Aside0.mk (IsS41.below (by repeat (first | (with_reducible first | exact HI114.out | apply IsS41.alloc | apply IsS41.drewN | apply IsS41.drew) | exact HI114.out)) hb); have n2_ := Aside0.mk (below_step (by repeat (first | (with_reducible first | exact HB.out | apply below_alloc | apply pw_below_drewN | apply below_drew1 | refine below_set ?_ (IsS41.ge HI114.out)) | exact HB.out)) hb); clear HI114; clear HB; have HO147 := n0_; have HI114 := n1_; have HB := n2_; clear n0_ n1_ n2_; clear hb ho80) | ((with_reducible refine gate_callee (f := 18) rfl ?_); refine goesL_ (some 67) rfl rfl Tryd.func18 (by kernel_rfl) rfl #[.pointer (some ⟨gb114, 0, none⟩)] rfl (by (try simp only [List.map_toArray, List.map_cons, List.map_nil]); first | done | rfl | (simp only [List.length_drop, List.length_take]; rfl)) ?_; (with_reducible refine (Builder_String.calls gb114 t144 t148 t149 w _ ?side1 ?side2 A74.out).mono ?_); (case side1 => repeat (first | (with_reducible first | exact HI114.out | apply IsS41.alloc | apply IsS41.drewN | apply IsS41.drew) | exact HI114.out)); (case side2 => repeat (first | (with_reducible first | exact HB.out | apply below_alloc | apply pw_below_drewN | apply below_drew1 | refine below_set ?_ (IsS41.ge HI114.out)) | exact HB.out)); rintro e w81 ⟨rfl, hi, hb, hk⟩; refine ⟨_, rfl, ?_⟩; have n0_ := Aside0.mk (Kd.R_mono (R_keepB (IsS41.apart (show IsS41 w _ gb114 t144 from by repeat (first | (with_reducible first | exact HI114.out | apply IsS41.alloc | apply IsS41.drewN | apply IsS41.drew) | exact HI114.out)) (by (with_reducible repeat (first | apply Kd.R_alloc | apply Kd.R_drewN | apply Kd.R_drew)); exact HO147.out) (by decide)) hk (by decide)) (fun _ h => h.1)); have n1_ := Aside0.mk (hb); have n2_ := Aside0.mk (hi); clear HO147; clear HB; clear HI114; have HO147 := n0_; have HB := n1_; have HI114 := n2_; clear n0_ n1_ n2_; (try clear hb); (try clear hk); (try clear hi)) | ((with_reducible refine gate_callee (f := 19) rfl ?_); refine goesL_ (some 68) rfl rfl Tryd.func19 (by kernel_rfl) rfl #[.string t148] rfl (by (try simp only [List.map_toArray, List.map_cons, List.map_nil]); first | done | rfl | (simp only [List.length_drop, List.length_take]; rfl)) ?_; (with_reducible refine (adler_Sum.calls t148 t150 _ A75.out).mono ?_); rintro e w82 ⟨rfl, hb⟩; refine ⟨_, rfl, ?_⟩; have n0_ := Aside0.mk (Kd.R_below (by (with_reducible repeat (first | apply Kd.R_alloc | apply Kd.R_drewN | apply Kd.R_drew)); exact HO147.out) hb); have n1_ := Aside0.mk (IsS41.below (by repeat (first | (with_reducible first | exact HI114.out | apply IsS41.alloc | apply IsS41.drewN | apply IsS41.drew) | exact HI114.out)) hb); have n2_ := Aside0.mk (below_step (by repeat (first | (with_reducible first | exact HB.out | apply below_alloc | apply pw_below_drewN | apply below_drew1 | refine below_set ?_ (IsS41.ge HI114.out)) | exact HB.out)) hb); clear HO147; clear HI114; clear HB; have HO147 := n0_; have HI114 := n1_; have HB := n2_; clear n0_ n1_ n2_; (try clear hb); (try clear hb2); (try clear hk); (try clear hi)) | ((with_reducible refine gate_dst (N := 69) rfl ?_); (try (refine gate_guard (by rfl) ?_; dsimp only)); refine Kd.R_lit (Kd.int .i64) _ 3 ?hg (N := 69) ?hd (xs := ([t150] : List Int)) (inner := [.int .i64 t150]) (ok := fun _ => True) (okp := fun _ => True) ?hr ?hp (fun _ hk => hk) trivial (Below.refl _ _) (Nat.le_refl _) (by simp) ?_; (case hd => rfl); (case hg => rfl); (case hr => first | (go_simp; done) | (go_simp; rfl)); (case hp => exact (Reps.one (show Kd.M (Kd.int .i64) _ _ _ t150 [.int .i64 t150] from rfl) (Reps.none _ _))); intro v152 w83 ho84 hb hg_ hnew_; clear hg_ hnew_; (first | rw [← Ny151.out] at ho84 | (simp only [Int.reduceToNat] at ho84; rw [← Ny151.out] at ho84)); have n0_ := Aside0.mk (Kd.R_below (by (with_reducible repeat (first | apply Kd.R_alloc | apply Kd.R_drewN | apply Kd.R_drew)); exact HO147.out) hb); have n1_ := Aside0.mk (Kd.R_lower ho84 (below_size (by repeat (first | (with_reducible first | exact HB.out | apply below_alloc | apply pw_below_drewN | apply below_drew1 | refine below_set ?_ (IsS41.ge HI114.out)) | exact HB.out)))); have n2_ := Aside0.mk (IsS41.below (by repeat (first | (with_reducible first | exact HI114.out | apply IsS41.alloc | apply IsS41.drewN | apply IsS41.drew) | exact HI114.out)) hb); have n3_ := Aside0.mk (below_step (by repeat (first | (with_reducible first | exact HB.out | apply below_alloc | apply pw_below_drewN | apply below_drew1 | refine below_set ?_ (IsS41.ge HI114.out)) | exact HB.out)) hb); clear HO147; clear HI114; clear HB; have HO147 := n0_; have HO153 := n1_; have HI114 := n2_; have HB := n3_; clear n0_ n1_ n2_ n3_; clear hb ho84; obtain ⟨Ao85, co85, eo85⟩ := Kd.R_slice HO147.out; subst eo85; obtain ⟨Ao86, co86, eo86⟩ := Kd.R_slice HO153.out; subst eo86) | ((with_reducible refine gate_callee (f := 16) rfl ?_); refine goesL_ (some 70) rfl rfl Tryd.func16 (by kernel_rfl) rfl #[.slice Ao85 y145.length co85, .slice Ao86 y151.length co86] rfl (by (try simp only [List.map_toArray, List.map_cons, List.map_nil]); first | done | rfl | (simp only [List.length_drop, List.length_take]; rfl)) ?_; (with_reducible refine (manifest_line.calls k1 (fun k_ => some k_ = (.slice Ao85 y145.length co85 : Value).ownBlock) (.slice Ao85 y145.length co85) y145 _ _ y151 t154 w _ ?side1 ?side2 ?side3 ?side4 ?side5 A76.out).mono ?_); (case side1 => repeat (first | (with_reducible first | exact HB.out | apply below_alloc | apply pw_below_drewN | apply below_drew1 | refine below_set ?_ (IsS41.ge HI114.out)) | exact HB.out)); (case side2 => exact Kd.R_tight rfl HO147.out); (case side3 => exact Kd.C_kept_own ((Kd.R_apart' HO153.out (Kd.R_typed HO147.out) (by decide))) (fun k_ hk_ hs_ => (hk_.2) hs_)); (case side4 => exact (Kd.R_reads' HO153.out).2.1); (case side5 => exact hGA.out); rintro e w87 ⟨rfl, hb, hkp⟩; refine ⟨_, rfl, ?_⟩; have n0_ := Aside0.mk (IsS41.kept (by repeat (first | (with_reducible first | exact HI114.out | apply IsS41.alloc | apply IsS41.drewN | apply IsS41.drew) | exact HI114.out)) hkp (fun k_ hs_ => (fun e_ => IsS41.own_far HI114.out HO147.out (by decide) k_ e_.symm) hs_)); have n1_ := Aside0.mk (Kd.R_mono (ok' := fun k_ => True) (Kd.R_keptB ((Kd.R_apart' HO153.out (Kd.R_typed HO147.out) (by decide))) hkp (fun k_ hk_ hs_ => (hk_.2) hs_)) (fun k_ hk_ => trivial)); have n2_ := Aside0.mk (hb); clear HI114; clear HO153; clear HB; clear HO147; have HI114 := n0_; have HO153 := n1_; have HB := n2_; clear n0_ n1_ n2_; (try clear hb); (try clear hkp)))
            go_ret2
            exact ⟨by first | rfl | (simp [errW_none, errW_some] <;> rfl) | (simp [*, errW_none, errW_some] <;> rfl), by repeat (first | (with_reducible first | exact HB.out | apply below_alloc | apply pw_below_drewN | apply below_drew1 | refine below_set ?_ (IsS41.ge HI114.out)) | exact HB.out)⟩
          · rw [if_neg c77] at H
            exact absurd H (by simp)
  · replace c4 := Bool.eq_false_iff.mpr c4
    subst c4
    have H1 : (some ((⟨#[]⟩ : ByteArray), 30)) = some (r1, r2) := by rw [if_neg (show ¬ (false = true) by decide)] at H; exact H
    clear H
    have H := H1
    clear H1
    simp only [Option.some.injEq, Prod.mk.injEq] at H
    obtain ⟨rfl, rfl⟩ := H
    go_enter Tryd.func9, Tryd.ntmps9
    go_wp2_with (first | ((with_reducible refine gate_dst (N := 11) rfl ?_); (try (refine gate_guard (by rfl) ?_; dsimp only)); refine Kd.R_lit (Kd.int .i64) _ 3 ?hg (N := 11) ?hd (xs := ([a0] : List Int)) (inner := [.int .i64 a0]) (ok := fun _ => True) (okp := fun _ => True) ?hr ?hp (fun _ hk => hk) trivial (Below.refl _ _) (Nat.le_refl _) (by simp) ?_; (case hd => rfl); (case hg => rfl); (case hr => first | (go_simp; done) | (go_simp; rfl)); (case hp => exact (Reps.one (show Kd.M (Kd.int .i64) _ _ _ a0 [.int .i64 a0] from rfl) (Reps.none _ _))); intro v111 w88 ho89 hb hg_ hnew_; clear hg_ hnew_; (first | rw [← Ny110.out] at ho89 | (simp only [Int.reduceToNat] at ho89; rw [← Ny110.out] at ho89)); have n0_ := Aside0.mk (Kd.R_lower ho89 (below_size (by repeat (first | (with_reducible first | exact HB.out | apply below_alloc | apply pw_below_drewN | apply below_drew1) | exact HB.out)))); have n1_ := Aside0.mk (below_step (by repeat (first | (with_reducible first | exact HB.out | apply below_alloc | apply pw_below_drewN | apply below_drew1) | exact HB.out)) hb); clear HB; have HO112 := n0_; have HB := n1_; clear n0_ n1_; clear hb ho89; obtain ⟨Ao90, co90, eo90⟩ := Kd.R_slice HO112.out; subst eo90) | ((with_reducible refine gate_callee (f := 14) rfl ?_); refine goesL_ (some 12) rfl rfl Tryd.func14 (by kernel_rfl) rfl #[.slice Ao90 y110.length co90] rfl (by (try simp only [List.map_toArray, List.map_cons, List.map_nil]); first | done | rfl | (simp only [List.length_drop, List.length_take]; rfl)) ?_; (with_reducible refine (manifest_near.calls k _ _ y110 false _ ?side1 ?side2 A3.out).mono ?_); (case side1 => repeat (first | exact (Kd.R_reads' HO112.out).2.2 | (with_reducible refine Kd.C_alloc ?_ _) | (with_reducible refine Kd.C_drewN ?_ _) | (with_reducible refine Kd.C_drew ?_))); (case side2 => exact (Kd.R_reads' HO112.out).2.1); rintro e w' ⟨rfl, ⟨nd, rfl⟩⟩; refine ⟨_, rfl, ?_⟩))
    go_ret2
    exact ⟨by first | rfl | (simp [errW_none, errW_some] <;> rfl) | (simp [*, errW_none, errW_some] <;> rfl), by repeat (first | (with_reducible first | exact HB.out | apply below_alloc | apply pw_below_drewN | apply below_drew1) | exact HB.out)⟩

end Go.Proofs.YtmgabnodachboaaDoor.P

/- Px6 -/
namespace Go.Proofs.YtmgabnodachboaaDoor.P
open Go.Proofs.YtmgabnodachboaaDoor.B
open Go.RowKit Go.Proofs.YtmgabnodachboaaDoorW.PrintWords Go.Proofs.YtmgabnodachboaaDoorW.PrintLast Go.Proofs.YtmgabnodachboaaDoorW.PrintMore
attribute [local go_sem] str_leq str_gtr str_geq max2_int min2_int max_two min_two max_three min_three max_four min_four   -- for this text's walks alone
set_option linter.unusedVariables false
set_option linter.unusedSimpArgs false

/-! ### stringslite_HasPrefix: function 52 -/
def stringslite_HasPrefix.f (a0 : ByteArray) (a1 : ByteArray) : Option (Bool) := if (a0.size : Int) ≥ (a1.size : Int) then (if 0 ≤ (a1.size : Int) then (if (a1.size : Int) ≤ (a0.size : Int) then (some ((a0.extract 0 ((a1.size : Int) : Int).toNat).toList == a1.toList)) else (none)) else (none)) else (some false)
set_option maxHeartbeats 8000000 in
set_option maxRecDepth 100000 in
theorem stringslite_HasPrefix.calls (a0 : ByteArray) (a1 : ByteArray) (r : Bool) (w : World) (h : stringslite_HasPrefix.f a0 a1 = some r) :
    Calls Tryd.prog 52 #[.string a0, .string a1] w fun e w' => e = .returned (.bool r) ∧ Drawn0 w w' := by
  have H : (if (a0.size : Int) ≥ (a1.size : Int) then (if 0 ≤ (a1.size : Int) then (if (a1.size : Int) ≤ (a0.size : Int) then (some ((a0.extract 0 ((a1.size : Int) : Int).toNat).toList == a1.toList)) else (none)) else (none)) else (some false)) = some r := h
  clear h
  by_cases c3 : (a0.size : Int) ≥ (a1.size : Int)
  · rw [if_pos c3] at H
    have c3b0 : decide ((a1.size : Int) ≤ (a0.size : Int)) = true := decide_eq_true c3
    have c3b1 : decide (a1.size ≤ a0.size) = true := decide_eq_true (Int.ofNat_le.mp c3)
    clear c3
    by_cases c4 : 0 ≤ (a1.size : Int)
    · rw [if_pos c4] at H
      have c4b0 := eq_true c4
      have c4b1 : decide (0 ≤ (a1.size : Int)) = true := decide_eq_true c4
      clear c4
      by_cases c5 : (a1.size : Int) ≤ (a0.size : Int)
      · rw [if_pos c5] at H
        have c5b0 := eq_true c5
        have c5b1 : decide ((a1.size : Int) ≤ (a0.size : Int)) = true := decide_eq_true c5
        clear c5
        obtain rfl := Option.some.inj H
        go_enter Tryd.func52, Tryd.ntmps52
        go_wp2
        go_ret
        exact ⟨by first | rfl | (simp; done) | (simp [*]; done), by repeat (first | exact Drawn0.refl _ | apply Drawn0.step)⟩
      · rw [if_neg c5] at H
        exact absurd H (by simp)
    · rw [if_neg c4] at H
      exact absurd H (by simp)
  · rw [if_neg c3] at H
    have c3b0 : decide ((a1.size : Int) ≤ (a0.size : Int)) = false := decide_eq_false c3
    have c3b1 : decide (a1.size ≤ a0.size) = false := decide_eq_false (fun h => c3 (Int.ofNat_le.mpr h))
    clear c3
    obtain rfl := Option.some.inj H
    go_enter Tryd.func52, Tryd.ntmps52
    go_wp2
    go_ret
    exact ⟨by first | rfl | (simp; done) | (simp [*]; done), by repeat (first | exact Drawn0.refl _ | apply Drawn0.step)⟩

end Go.Proofs.YtmgabnodachboaaDoor.P

/- Px7 -/
namespace Go.Proofs.YtmgabnodachboaaDoor.P
open Go.Proofs.YtmgabnodachboaaDoor.B
open Go.RowKit Go.Proofs.YtmgabnodachboaaDoorW.PrintWords Go.Proofs.YtmgabnodachboaaDoorW.PrintLast Go.Proofs.YtmgabnodachboaaDoorW.PrintMore
attribute [local go_sem] str_leq str_gtr str_geq max2_int min2_int max_two min_two max_three min_three max_four min_four   -- for this text's walks alone
set_option linter.unusedVariables false
set_option linter.unusedSimpArgs false

/-! ### stringslite_TrimPrefix: function 39 -/
def stringslite_TrimPrefix.f (a0 : ByteArray) (a1 : ByteArray) : Option (ByteArray) := (stringslite_HasPrefix.f a0 a1).bind fun t155 => (if t155 = true then (if 0 ≤ (a1.size : Int) then (if (a1.size : Int) ≤ (a0.size : Int) then (some (a0.extract ((a1.size : Int) : Int).toNat a0.size)) else (none)) else (none)) else (some a0))
set_option maxHeartbeats 8000000 in
set_option maxRecDepth 100000 in
theorem stringslite_TrimPrefix.calls (a0 : ByteArray) (a1 : ByteArray) (r : ByteArray) (w : World) (h : stringslite_TrimPrefix.f a0 a1 = some r) :
    Calls Tryd.prog 39 #[.string a0, .string a1] w fun e w' => e = .returned (.string r) ∧ Drawn0 w w' := by
  have H : ((stringslite_HasPrefix.f a0 a1).bind fun t155 => (if t155 = true then (if 0 ≤ (a1.size : Int) then (if (a1.size : Int) ≤ (a0.size : Int) then (some (a0.extract ((a1.size : Int) : Int).toNat a0.size)) else (none)) else (none)) else (some a0))) = some r := h
  clear h
  replace H := Option.bind_eq_some_iff.mp H
  obtain ⟨t155, A30, H⟩ := H
  replace H : (if t155 = true then (if 0 ≤ (a1.size : Int) then (if (a1.size : Int) ≤ (a0.size : Int) then (some (a0.extract ((a1.size : Int) : Int).toNat a0.size)) else (none)) else (none)) else (some a0)) = some r := H
  have A3 := Aside0.mk A30
  clear A30
  by_cases c4 : t155 = true
  · subst c4
    have H1 : (if 0 ≤ (a1.size : Int) then (if (a1.size : Int) ≤ (a0.size : Int) then (some (a0.extract ((a1.size : Int) : Int).toNat a0.size)) else (none)) else (none)) = some r := by rw [if_pos rfl] at H; exact H
    clear H
    have H := H1
    clear H1
    by_cases c5 : 0 ≤ (a1.size : Int)
    · rw [if_pos c5] at H
      have c5b0 := eq_true c5
      have c5b1 : decide (0 ≤ (a1.size : Int)) = true := decide_eq_true c5
      clear c5
      by_cases c6 : (a1.size : Int) ≤ (a0.size : Int)
      · rw [if_pos c6] at H
        have c6b0 := eq_true c6
        have c6b1 : decide ((a1.size : Int) ≤ (a0.size : Int)) = true := decide_eq_true c6
        clear c6
        obtain rfl := Option.some.inj H
        go_enter Tryd.func39, Tryd.ntmps39
        go_wp2_with (first | ((with_reducible refine gate_callee (f := 52) rfl ?_); refine goesL_ (some 7) rfl rfl Tryd.func52 (by kernel_rfl) rfl #[.string a0, .string a1] rfl (by (try simp only [List.map_toArray, List.map_cons, List.map_nil]); first | done | rfl | (simp only [List.length_drop, List.length_take]; rfl)) ?_; (with_reducible refine (stringslite_HasPrefix.calls a0 a1 true _ A3.out).mono ?_); rintro e w' ⟨rfl, ⟨nd, rfl⟩⟩; refine ⟨_, rfl, ?_⟩))
        go_ret
        exact ⟨by first | rfl | (simp; done) | (simp [*]; done), by repeat (first | exact Drawn0.refl _ | apply Drawn0.step)⟩
      · rw [if_neg c6] at H
        exact absurd H (by simp)
    · rw [if_neg c5] at H
      exact absurd H (by simp)
  · replace c4 := Bool.eq_false_iff.mpr c4
    subst c4
    have H1 : (some a0) = some r := by rw [if_neg (show ¬ (false = true) by decide)] at H; exact H
    clear H
    have H := H1
    clear H1
    obtain rfl := Option.some.inj H
    go_enter Tryd.func39, Tryd.ntmps39
    go_wp2_with (first | ((with_reducible refine gate_callee (f := 52) rfl ?_); refine goesL_ (some 7) rfl rfl Tryd.func52 (by kernel_rfl) rfl #[.string a0, .string a1] rfl (by (try simp only [List.map_toArray, List.map_cons, List.map_nil]); first | done | rfl | (simp only [List.length_drop, List.length_take]; rfl)) ?_; (with_reducible refine (stringslite_HasPrefix.calls a0 a1 false _ A3.out).mono ?_); rintro e w' ⟨rfl, ⟨nd, rfl⟩⟩; refine ⟨_, rfl, ?_⟩))
    go_ret
    exact ⟨by first | rfl | (simp; done) | (simp [*]; done), by repeat (first | exact Drawn0.refl _ | apply Drawn0.step)⟩

end Go.Proofs.YtmgabnodachboaaDoor.P

/- Px8 -/
namespace Go.Proofs.YtmgabnodachboaaDoor.P
open Go.Proofs.YtmgabnodachboaaDoor.B
open Go.RowKit Go.Proofs.YtmgabnodachboaaDoorW.PrintWords Go.Proofs.YtmgabnodachboaaDoorW.PrintLast Go.Proofs.YtmgabnodachboaaDoorW.PrintMore
attribute [local go_sem] str_leq str_gtr str_geq max2_int min2_int max_two min_two max_three min_three max_four min_four   -- for this text's walks alone
set_option linter.unusedVariables false
set_option linter.unusedSimpArgs false

/-! ### strings_TrimPrefix: function 26 -/
def strings_TrimPrefix.f (a0 : ByteArray) (a1 : ByteArray) : Option (ByteArray) := (stringslite_TrimPrefix.f a0 a1).bind fun t156 => (some t156)
set_option maxHeartbeats 8000000 in
set_option maxRecDepth 100000 in
theorem strings_TrimPrefix.calls (a0 : ByteArray) (a1 : ByteArray) (r : ByteArray) (w : World) (h : strings_TrimPrefix.f a0 a1 = some r) :
    Calls Tryd.prog 26 #[.string a0, .string a1] w fun e w' => e = .returned (.string r) ∧ Drawn0 w w' := by
  have H : ((stringslite_TrimPrefix.f a0 a1).bind fun t156 => (some t156)) = some r := h
  clear h
  replace H := Option.bind_eq_some_iff.mp H
  obtain ⟨t156, A30, H⟩ := H
  replace H : (some t156) = some r := H
  have A3 := Aside0.mk A30
  clear A30
  obtain rfl := Option.some.inj H
  go_enter Tryd.func26, Tryd.ntmps26
  go_wp2_with (first | ((with_reducible refine gate_callee (f := 39) rfl ?_); refine goesL_ (some 7) rfl rfl Tryd.func39 (by kernel_rfl) rfl #[.string a0, .string a1] rfl (by (try simp only [List.map_toArray, List.map_cons, List.map_nil]); first | done | rfl | (simp only [List.length_drop, List.length_take]; rfl)) ?_; (with_reducible refine (stringslite_TrimPrefix.calls a0 a1 t156 _ A3.out).mono ?_); rintro e w' ⟨rfl, ⟨nd, rfl⟩⟩; refine ⟨_, rfl, ?_⟩))
  go_ret
  exact ⟨by first | rfl | (simp; done) | (simp [*]; done), by repeat (first | exact Drawn0.refl _ | apply Drawn0.step)⟩

end Go.Proofs.YtmgabnodachboaaDoor.P
