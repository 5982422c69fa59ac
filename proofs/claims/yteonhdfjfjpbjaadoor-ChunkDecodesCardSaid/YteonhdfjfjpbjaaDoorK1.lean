/- Texts of this seat, joined: lemmas and walks that its statements' proofs use. -/
import Derived.Test.YteonhdfjfjpbjaaDoorProg
import Derived.Below
import Derived.Deep.Draws
import Derived.Deep.AppendLies
import Derived.Maps.AppendAt
import Derived.OwnWalk
import Derived.Laws.BytesArg
import Derived.Laws.MakeOwn
import Derived.Laws.OwnMore
import Derived.Deep.OwnRows
import Derived.Tactics
import Derived.Lib.ConvBytes
import Derived.Laws.Slices
import Derived.WalkKit
import Derived.KernelRfl
import Derived.RowKit3
import Derived.Deep.LoopGhost
import Derived.Deep.QuietTactic
import Derived.BigQuiet
import Derived.WideLaws
import Derived.Deep.DeepCutAuto
import Derived.Deep.CutBlock
import Derived.Deep.RegionHeld3
import Derived.Laws.Rows
import Derived.Lib.AppendStr
import Derived.ArgAppend
import Derived.Laws.IdiomCopy
import Derived.OrdersHeld
import Derived.Laws.BitsLemmas
import Derived.RowKit
import Derived.WalkMore
import Derived.Test.YteonhdfjfjpbjaaDoorK0
import Derived.Shelf.Strings.Builder1
import Derived.Shelf.Strings.Trim
import Derived.Shelf.Small.Utf8
import Derived.Shelf.Small.Strs
import Derived.Shelf.Strings.BuilderF
import Derived.Shelf.Strings.BuilderK
import Derived.Shelf.Strconv.Itoa0
import Derived.Shelf.LaysM
import Derived.Shelf.Strconv.Clone
import Derived.Shelf.Strconv.SyntaxError
import Derived.Shelf.LaysC
import Derived.Shelf.Strconv.ToError
import Derived.Shelf.Strconv.Lower
import Derived.Shelf.Strconv.RangeError
import Derived.Shelf.Strconv.ToErrorRange
import Derived.Shelf.Strings.Search1
import Derived.Shelf.Strings.Search2
import Derived.Shelf.Strings.Cut
import Derived.Shelf.Strings.Shaped
import Derived.Shelf.Strings.Prefix
import Derived.Shelf.Strings.Runes
import Derived.Shelf.Strings.AsciiSet
import Derived.Shelf.Unicode.DecodeSlow
import Derived.Lib.Hide
import Derived.Lib.SmallJoins
import Derived.Lib.ItoaNum
import Derived.Lib.TrailingZeros
import Derived.Shelf.Strings.SlTrimAscii
import Derived.Lib.IndexMore
import Derived.Lib.SlTrimSet
import Derived.RangeFuncNested
import Derived.RangeFuncBound
import Derived.RangeFuncCalls
import Derived.RangeFuncLeaves
import Derived.Shelf.Abstract
import Derived.Shelf.RegionOpen
import Derived.OwnWalkIn
import Derived.TacticsInMore
import Derived.LoopNIn
import Derived.LoopIn
/- Px0 -/
namespace Go.Proofs.YteonhdfjfjpbjaaDoor.P
open Go.Proofs.YteonhdfjfjpbjaaDoor.B
open Go.RowKit Go.Proofs.YteonhdfjfjpbjaaDoorW.PrintWords Go.Proofs.YteonhdfjfjpbjaaDoorW.PrintLast Go.Proofs.YteonhdfjfjpbjaaDoorW.PrintMore
attribute [local go_sem] str_leq str_gtr str_geq max2_int min2_int max_two min_two max_three min_three max_four min_four   -- for this text's walks alone
set_option linter.unusedVariables false
set_option linter.unusedSimpArgs false



def errW : Option Int → Value
  | none => .nilIface
  | some c => .iface 0 (.int .i64 c)
theorem errW_none : errW none = .nilIface := rfl
theorem errW_some (c : Int) : errW (some c) = .iface 0 (.int .i64 c) := rfl

theorem info5 : (Tryd.prog.info? 5).map (fun i => (i.zero, i.size, i.bytes)) = some (some (.int .u8 0), 1, 1) := by kernel_rfl
theorem info69 : (Tryd.prog.info? 69).map (fun i => (i.zero, i.size, i.bytes)) = some (some (.agg #[(.string ⟨#[]⟩), (.string ⟨#[]⟩)]), 2, 32) := by kernel_rfl
-- the values' own types
/-! #### struct type 69 -/
structure S69 where
  f0 : ByteArray
  f1 : ByteArray
def z69 : S69 := ⟨(⟨#[]⟩ : ByteArray), (⟨#[]⟩ : ByteArray)⟩
def k69 : Kd S69 := Kd.iso (Kd.pair Kd.string Kd.string) (fun x : S69 => (x.f0, x.f1))
theorem k69_open {w : World} {x : S69} {cs : List Value} (h : k69.K w x cs) : cs = [.string x.f0, .string x.f1] := by
  obtain ⟨_, _, rfl, rfl, rfl⟩ := h
  exact rfl
theorem k69_openM {w : World} {base : Nat} {ok : Nat → Prop} {x : S69} {cs : List Value} (h : k69.M w base ok x cs) : cs = [.string x.f0, .string x.f1] := by
  obtain ⟨_, _, rfl, rfl, rfl⟩ := h
  exact rfl
theorem k69_mk (w : World) (x : S69)  : k69.K w x [.string x.f0, .string x.f1] := ⟨[.string x.f0], [.string x.f1], rfl, rfl, rfl⟩
theorem k69_mkM (w : World) (base : Nat) (ok : Nat → Prop) (x : S69)  : k69.M w base ok x [.string x.f0, .string x.f1] := ⟨[.string x.f0], [.string x.f1], rfl, rfl, rfl⟩
def rd_T69 (xs : List S69) (i : Int) : S69 := xs.getD i.toNat z69
theorem at_T69 {w : World} {A : Option Addr} {n : Nat} {xs : List S69} (h : Kd.C k69 w A n xs) (i : Int) (h0 : 0 ≤ i) (h1 : i < n) : ∃ ad , A = some ad ∧ w.cell? (ad.add (i.toNat * 2)) = some (.string (rd_T69 xs i).f0) ∧ w.cell? ⟨(ad.add (i.toNat * 2)).block, (ad.add (i.toNat * 2)).off + 1, none⟩ = some (.string (rd_T69 xs i).f1) := by
  obtain ⟨ad, c, e, _, hK, hc0⟩ := Kd.C_get h z69 i h0 h1
  have hc : ∀ j u, c[j]? = some u → w.cell? (ad.add (i.toNat * 2 + j)) = some u := hc0
  obtain rfl := k69_open hK
  exact ⟨ad, e, hc 0 _ rfl, by rw [← add_field _ _ 1 (by omega)]; exact hc 1 _ rfl⟩

/-- A strings.Builder at block g that holds f0. -/
def IsS35 (w0 W : World) (g : Nat) (f0 : ByteArray) : Prop := Bld 35 5 w0 W g f0
theorem IsS35.new {w0 W : World} {g : Nat} (hb : W.heap[g]? = some (.cells #[.pointer none, .slice none 0 0] 35 (0, 0))) (hg : w0.heap.size ≤ g) : IsS35 w0 W g ⟨#[]⟩ := .inl ⟨hg, .slice none 0 0, hb, ⟨by simp [Lib.byteCells], .inl ⟨rfl, by simp [Lib.byteCells]⟩⟩, by simp [Value.ownBlock]⟩
theorem IsS35.below {w0 W : World} {g : Nat} {f0 : ByteArray} {W1 : World} (h : IsS35 w0 W g f0) (hw : Below W.heap.size W W1) : IsS35 w0 W1 g f0 := Bld.below h hw
theorem IsS35.grown {w0 W : World} {g : Nat} {f0 : ByteArray} {W1 : World} {row : Option Nat} (h : IsS35 w0 W g f0) (hw : W.grownBy W1 row) (hne : ∀ k, row = some k → k ≠ g ∧ ∀ c fz, W.heap[k]? ≠ some (.cells c 5 fz)) : IsS35 w0 W1 g f0 := Bld.grown h hw hne
theorem IsS35.kept {w0 W : World} {g : Nat} {f0 : ByteArray} {W1 : World} {S : Nat → Prop} (h : IsS35 w0 W g f0) (hk : Kept W W1 S) (hne : ∀ k, S k → k ≠ g ∧ ∀ c fz, W.heap[k]? ≠ some (.cells c 5 fz)) : IsS35 w0 W1 g f0 := Bld.kept h hk.2 hne
theorem IsS35.fresh {w0 W : World} {g : Nat} {f0 : ByteArray} (h : IsS35 w0 W g f0) : ∀ k, W.heap.size ≤ k → k ≠ g := fun k hk e => by have := Bld.lt h; omega
theorem IsS35.alloc {w0 W : World} {g : Nat} {f0 : ByteArray} (h : IsS35 w0 W g f0) (o : Obj) : IsS35 w0 (W.alloc o) g f0 := Bld.below h (below_alloc (Below.refl _ _) o)
theorem IsS35.drewN {w0 W : World} {g : Nat} {f0 : ByteArray} (h : IsS35 w0 W g f0) (m : Nat) : IsS35 w0 (W.drewN m) g f0 := h
theorem IsS35.drew {w0 W : World} {g : Nat} {f0 : ByteArray} (h : IsS35 w0 W g f0) : IsS35 w0 W.drew g f0 := h
theorem IsS35.at_ {w0 W : World} {g : Nat} {f0 : ByteArray} {w' : World} {m : Nat} (hq : W.drewN m = w') (h : IsS35 w0 W g f0) : IsS35 w0 w' g f0 := by subst hq; exact IsS35.drewN h m
theorem IsS35.apart {w0 W : World} {g : Nat} {f0 : ByteArray} {α : Type} {d : Kd α} {e : Nat} {base : Nat} {ok : Nat → Prop} {v : Value} {xs : List α} (h : IsS35 w0 W g f0) (ho : d.R e W base ok v xs) (ht : ∀ q, q ∈ e :: d.E → q ≠ 35) : d.R e W base (fun k => ok k ∧ k ≠ g) v xs := by
  obtain ⟨_, hb⟩ := Bld.blk h
  exact Kd.R_types ho hb ht
theorem IsS35.own_ne {w0 W : World} {g : Nat} {f0 : ByteArray} {α : Type} {d : Kd α} {e : Nat} {base : Nat} {ok : Nat → Prop} {v : Value} {xs : List α} (h : IsS35 w0 W g f0) (ho : d.R e W base ok v xs) (ht : e ≠ 35) : some g ≠ v.ownBlock := by
  obtain ⟨_, hb⟩ := Bld.blk h
  exact Kd.R_ne ho hb ht
theorem IsS35.own_far {w0 W : World} {g : Nat} {f0 : ByteArray} {α : Type} {d : Kd α} {e : Nat} {base : Nat} {ok : Nat → Prop} {v : Value} {xs : List α} (h : IsS35 w0 W g f0) (ho : d.R e W base ok v xs) (ht : e ≠ 35 ∧ e ≠ 5) : ∀ k, v.ownBlock = some k → k ≠ g ∧ ∀ c fz, W.heap[k]? ≠ some (.cells c 5 fz) := by
  obtain ⟨inner, hi⟩ := Kd.R_own ho
  exact typed_far (Bld.blk h) hi ht.1 ht.2
theorem IsS35.apartQ {w0 W : World} {g : Nat} {f0 : ByteArray} {α : Type} {d : Kd α} {e : Nat} {base : Nat} {ok : Nat → Prop} {v : Value} {xs : List α} (h : IsS35 w0 W g f0) (ho : d.Q e W base ok v xs) (ht : ∀ q, q ∈ e :: d.E → q ≠ 35) : d.Q e W base (fun k => ok k ∧ k ≠ g) v xs := by
  obtain ⟨_, hb⟩ := Bld.blk h
  exact Kd.Q_types ho hb ht
theorem IsS35.own_neQ {w0 W : World} {g : Nat} {f0 : ByteArray} {α : Type} {d : Kd α} {e : Nat} {base : Nat} {ok : Nat → Prop} {v : Value} {xs : List α} (h : IsS35 w0 W g f0) (ho : d.Q e W base ok v xs) (ht : e ≠ 35) : some g ≠ v.ownBlock := by
  obtain ⟨_, hb⟩ := Bld.blk h
  exact Kd.Q_ne ho hb ht
theorem IsS35.apartS {w0 W : World} {g : Nat} {f0 : ByteArray} {α : Type} {d : Kd α} {e : Nat} {base : Nat} {ok : Nat → Prop} {v : Value} {xs : List α} (h : IsS35 w0 W g f0) (ho : Kd.S d e W base ok v xs) (ht : ∀ q, q ∈ e :: d.E → q ≠ 35) : Kd.S d e W base (fun k => ok k ∧ k ≠ g) v xs := by
  obtain ⟨_, hb⟩ := Bld.blk h
  exact Kd.S_types ho hb ht
theorem IsS35.own_neS {w0 W : World} {g : Nat} {f0 : ByteArray} {α : Type} {d : Kd α} {e : Nat} {base : Nat} {ok : Nat → Prop} {v : Value} {xs : List α} (h : IsS35 w0 W g f0) (ho : Kd.S d e W base ok v xs) (ht : e ≠ 35) : some g ≠ v.ownBlock := by
  obtain ⟨_, hb⟩ := Bld.blk h
  exact Kd.S_ne ho hb ht
theorem IsS35.own_farS {w0 W : World} {g : Nat} {f0 : ByteArray} {α : Type} {d : Kd α} {e : Nat} {base : Nat} {ok : Nat → Prop} {v : Value} {xs : List α} (h : IsS35 w0 W g f0) (ho : Kd.S d e W base ok v xs) (ht : e ≠ 35 ∧ e ≠ 5) : ∀ k, v.ownBlock = some k → k ≠ g ∧ ∀ c fz, W.heap[k]? ≠ some (.cells c 5 fz) := by
  obtain ⟨inner, hi⟩ := Kd.S_own ho
  exact typed_far (Bld.blk h) hi ht.1 ht.2
theorem IsS35.lt {w0 W : World} {g : Nat} {f0 : ByteArray} (h : IsS35 w0 W g f0) : g < W.heap.size := Bld.lt h
theorem IsS35.ge {w0 W : World} {g : Nat} {f0 : ByteArray} (h : IsS35 w0 W g f0) : w0.heap.size ≤ g := Bld.ge h
theorem IsS35.ne_blk {w0 W : World} {g : Nat} {f0 : ByteArray} {a : Nat} {cs : Array Value} {t : TypeId} {fr : Nat × Nat} (h : IsS35 w0 W g f0) (hb2 : W.heap[a]? = some (.cells cs t fr)) (ht : t ≠ 35) : g ≠ a := by
  obtain ⟨_, hb⟩ := Bld.blk h
  rintro rfl
  rw [hb] at hb2
  injection hb2 with hb2
  injection hb2 with _ ht2
  exact ht ht2.symm
theorem IsS35.farB {w0 W : World} {g : Nat} {f0 : ByteArray} {p : Addr} (h : IsS35 w0 W g f0) (hne : g ≠ p.block) {t : Nat} (ht : ∃ c fz, W.heap[p.block]? = some (.cells c t fz)) (hte : t ≠ 5) (u : Value) : IsS35 w0 (W.setCell p u) g f0 := Bld.farB h hne ht hte u

/-- A state of type 58 at block g of W; what its slices lead to came in by w0. -/
def IsS58 (w0 W : World) (g : Nat) (f0 : ByteArray) : Prop := W.heap[g]? = some (.cells #[.string f0] 58 (0, 0)) ∧ w0.heap.size ≤ g
theorem IsS58.grown {w0 W : World} {g : Nat} {f0 : ByteArray} {W1 : World} {row : Option Nat} (h : IsS58 w0 W g f0) (hw : W.grownBy W1 row) (hne : some g ≠ row) : IsS58 w0 W1 g f0 := by
  obtain ⟨hb, hg⟩ := h
  exact ⟨blk_grown hb hw hne, hg⟩
theorem IsS58.own_neN {w0 W : World} {g : Nat} {f0 : ByteArray} {α : Type} {d : Kd α} {e : Nat} {base : Nat} {ok : Nat → Prop} {v : Value} {xs : List α} (h : IsS58 w0 W g f0) (ho : Kd.N d e W base ok v xs) (ht : e ≠ 58) : some g ≠ v.ownBlock := by
  obtain ⟨hb, hg⟩ := h
  exact Kd.N_ne ho hb ht
theorem IsS58.fresh {w0 W : World} {g : Nat} {f0 : ByteArray} (h : IsS58 w0 W g f0) : ∀ k, W.heap.size ≤ k → k ≠ g := by
  obtain ⟨hb, hg⟩ := h
  exact Kd.freshB hb
theorem IsS58.kept {w0 W : World} {g : Nat} {f0 : ByteArray} {W1 : World} {S : Nat → Prop} (h : IsS58 w0 W g f0) (hk : Kept W W1 S) (hne : ¬ S g) : IsS58 w0 W1 g f0 := by
  obtain ⟨hb, hg⟩ := h
  exact ⟨blk_kept hb hk hne, hg⟩
theorem IsS58.below {w0 W : World} {g : Nat} {f0 : ByteArray} {W1 : World} (h : IsS58 w0 W g f0) (hw : Below W.heap.size W W1) : IsS58 w0 W1 g f0 := h.grown (grown_of_below hw none) (by simp)
theorem IsS58.alloc {w0 W : World} {g : Nat} {f0 : ByteArray} (h : IsS58 w0 W g f0) (o : Obj) : IsS58 w0 (W.alloc o) g f0 := h.below (below_alloc (Below.refl _ _) o)
theorem IsS58.drewN {w0 W : World} {g : Nat} {f0 : ByteArray} (h : IsS58 w0 W g f0) (m : Nat) : IsS58 w0 (W.drewN m) g f0 := h
theorem IsS58.drew {w0 W : World} {g : Nat} {f0 : ByteArray} (h : IsS58 w0 W g f0) : IsS58 w0 W.drew g f0 := h
theorem IsS58.at_ {w0 W : World} {g : Nat} {f0 : ByteArray} {w' : World} {m : Nat} (hq : W.drewN m = w') (h : IsS58 w0 W g f0) : IsS58 w0 w' g f0 := by subst hq; exact IsS58.drewN h m
theorem IsS58.apart {w0 W : World} {g : Nat} {f0 : ByteArray} {α : Type} {d : Kd α} {e : Nat} {base : Nat} {ok : Nat → Prop} {v : Value} {xs : List α} (h : IsS58 w0 W g f0) (ho : d.R e W base ok v xs) (ht : ∀ q, q ∈ e :: d.E → q ≠ 58) : d.R e W base (fun k => ok k ∧ k ≠ g) v xs := by
  obtain ⟨hb, hg⟩ := h
  exact Kd.R_types ho hb ht
theorem IsS58.own_ne {w0 W : World} {g : Nat} {f0 : ByteArray} {α : Type} {d : Kd α} {e : Nat} {base : Nat} {ok : Nat → Prop} {v : Value} {xs : List α} (h : IsS58 w0 W g f0) (ho : d.R e W base ok v xs) (ht : e ≠ 58) : some g ≠ v.ownBlock := by
  obtain ⟨hb, hg⟩ := h
  exact Kd.R_ne ho hb ht
theorem IsS58.apartQ {w0 W : World} {g : Nat} {f0 : ByteArray} {α : Type} {d : Kd α} {e : Nat} {base : Nat} {ok : Nat → Prop} {v : Value} {xs : List α} (h : IsS58 w0 W g f0) (ho : d.Q e W base ok v xs) (ht : ∀ q, q ∈ e :: d.E → q ≠ 58) : d.Q e W base (fun k => ok k ∧ k ≠ g) v xs := by
  obtain ⟨hb, hg⟩ := h
  exact Kd.Q_types ho hb ht
theorem IsS58.own_neQ {w0 W : World} {g : Nat} {f0 : ByteArray} {α : Type} {d : Kd α} {e : Nat} {base : Nat} {ok : Nat → Prop} {v : Value} {xs : List α} (h : IsS58 w0 W g f0) (ho : d.Q e W base ok v xs) (ht : e ≠ 58) : some g ≠ v.ownBlock := by
  obtain ⟨hb, hg⟩ := h
  exact Kd.Q_ne ho hb ht
theorem IsS58.apartS {w0 W : World} {g : Nat} {f0 : ByteArray} {α : Type} {d : Kd α} {e : Nat} {base : Nat} {ok : Nat → Prop} {v : Value} {xs : List α} (h : IsS58 w0 W g f0) (ho : d.S e W base ok v xs) (ht : ∀ q, q ∈ e :: d.E → q ≠ 58) : d.S e W base (fun k => ok k ∧ k ≠ g) v xs := by
  obtain ⟨hb, hg⟩ := h
  exact Kd.S_types ho hb ht
theorem IsS58.own_neS {w0 W : World} {g : Nat} {f0 : ByteArray} {α : Type} {d : Kd α} {e : Nat} {base : Nat} {ok : Nat → Prop} {v : Value} {xs : List α} (h : IsS58 w0 W g f0) (ho : d.S e W base ok v xs) (ht : e ≠ 58) : some g ≠ v.ownBlock := by
  obtain ⟨hb, hg⟩ := h
  exact Kd.S_ne ho hb ht
theorem IsS58.lt {w0 W : World} {g : Nat} {f0 : ByteArray} (h : IsS58 w0 W g f0) : g < W.heap.size := by
  obtain ⟨hb, hg⟩ := h
  exact blk_lt hb
theorem IsS58.ge {w0 W : World} {g : Nat} {f0 : ByteArray} (h : IsS58 w0 W g f0) : w0.heap.size ≤ g := by
  obtain ⟨hb, hg⟩ := h
  exact hg
theorem IsS58.ne_blk {w0 W : World} {g : Nat} {f0 : ByteArray} {a : Nat} {cs : Array Value} {t : TypeId} {fr : Nat × Nat} (h : IsS58 w0 W g f0) (hb2 : W.heap[a]? = some (.cells cs t fr)) (ht : t ≠ 58) : g ≠ a := by
  obtain ⟨hb, hg⟩ := h
  rintro rfl
  rw [hb] at hb2
  injection hb2 with hb2
  injection hb2 with _ ht2
  exact ht ht2.symm
theorem IsS58.far {w0 W : World} {g : Nat} {f0 : ByteArray} {p : Addr} (h : IsS58 w0 W g f0) (hne : g ≠ p.block) (u : Value) : IsS58 w0 (W.setCell p u) g f0 := by
  obtain ⟨hb, hg⟩ := h
  exact ⟨blk_far hb hne u, hg⟩
theorem cellS58_0 {W : World} {g : Nat} {f0 : ByteArray} (h : W.heap[g]? = some (.cells #[.string f0] 58 (0, 0))) : W.cell? ⟨g, 0, none⟩ = some (.string f0) := (blk_cell h 0).trans rfl
theorem IsS58.set_0 {w0 W : World} {g : Nat} {f0 : ByteArray} (h : IsS58 w0 W g f0) (x : ByteArray) : IsS58 w0 (W.setCell ⟨g, 0, none⟩ (.string x)) g x := by
  obtain ⟨hb, hg⟩ := h
  exact ⟨by simpa using blk_set hb 0 (.string x), hg⟩
theorem IsS58.new (w0 W : World) (f0 : ByteArray) (hB : Below w0.heap.size w0 W) : IsS58 w0 (W.alloc (.cells #[.string f0] 58)) W.heap.size f0 := ⟨by simpa using heap_alloc_new W _, hB.size⟩
theorem IsS58.own_far {w0 W : World} {g : Nat} {f0 : ByteArray} {α : Type} {d : Kd α} {e : Nat} {base : Nat} {ok : Nat → Prop} {v : Value} {xs : List α} (h : IsS58 w0 W g f0) (ho : d.R e W base ok v xs) (ht : e ≠ 58) : some g ≠ v.ownBlock := IsS58.own_ne h ho ht
theorem IsS58.own_farS {w0 W : World} {g : Nat} {f0 : ByteArray} {α : Type} {d : Kd α} {e : Nat} {base : Nat} {ok : Nat → Prop} {v : Value} {xs : List α} (h : IsS58 w0 W g f0) (ho : d.S e W base ok v xs) (ht : e ≠ 58) : some g ≠ v.ownBlock := IsS58.own_neS h ho ht
theorem IsS58.own_farQ {w0 W : World} {g : Nat} {f0 : ByteArray} {α : Type} {d : Kd α} {e : Nat} {base : Nat} {ok : Nat → Prop} {v : Value} {xs : List α} (h : IsS58 w0 W g f0) (ho : d.Q e W base ok v xs) (ht : e ≠ 58) : some g ≠ v.ownBlock := IsS58.own_neQ h ho ht

end Go.Proofs.YteonhdfjfjpbjaaDoor.P

/- Shelf -/
namespace Go.Proofs
open Go.Shelf
def Tryd.lays170_ren : Go.Shelf.Ren := ⟨fun | 170 => 14 | n => n, fun | 70 => 32 | 3 => 3 | 0 => 0 | 72 => 35 | 37 => 33 | 5 => 5 | n => n, fun | n => n⟩
theorem Tryd.lays170 : Go.Proofs.Lays.n170 Tryd.prog Tryd.lays170_ren := {
  mixed := by kernel_rfl
  f170 := Tryd.func14.trans (congrArg some (by kernel_rfl))
  t0 := Tryd.underlying0
  a0 := Tryd.isAgg0
  z0 := Tryd.sizeOf0
  v0 := Tryd.zeroValue0
  t3 := Tryd.underlying3
  a3 := Tryd.isAgg3
  z3 := Tryd.sizeOf3
  v3 := Tryd.zeroValue3
  t37 := Tryd.underlying33
  a37 := Tryd.isAgg33
  z37 := Tryd.sizeOf33
  v37 := Tryd.zeroValue33
  t70 := Tryd.underlying32
  a70 := Tryd.isAgg32
  z70 := Tryd.sizeOf32
  v70 := Tryd.zeroValue32
  t72 := Tryd.underlying35
  a72 := Tryd.isAgg35
  z72 := Tryd.sizeOf35
  v72 := Tryd.zeroValue35 }
def Tryd.lays169_ren : Go.Shelf.Ren := ⟨fun | 169 => 17 | n => n, fun | 70 => 32 | 9 => 9 | 0 => 0 | 72 => 35 | 37 => 33 | 127 => 72 | 3 => 3 | 5 => 5 | n => n, fun | n => n⟩
theorem Tryd.lays169 : Go.Proofs.Lays.n169 Tryd.prog Tryd.lays169_ren := {
  mixed := by kernel_rfl
  f169 := Tryd.func17.trans (congrArg some (by kernel_rfl))
  t0 := Tryd.underlying0
  a0 := Tryd.isAgg0
  z0 := Tryd.sizeOf0
  v0 := Tryd.zeroValue0
  t3 := Tryd.underlying3
  a3 := Tryd.isAgg3
  z3 := Tryd.sizeOf3
  v3 := Tryd.zeroValue3
  t9 := Tryd.underlying9
  a9 := Tryd.isAgg9
  z9 := Tryd.sizeOf9
  v9 := Tryd.zeroValue9
  t37 := Tryd.underlying33
  a37 := Tryd.isAgg33
  z37 := Tryd.sizeOf33
  v37 := Tryd.zeroValue33
  t70 := Tryd.underlying32
  a70 := Tryd.isAgg32
  z70 := Tryd.sizeOf32
  v70 := Tryd.zeroValue32
  t72 := Tryd.underlying35
  a72 := Tryd.isAgg35
  z72 := Tryd.sizeOf35
  v72 := Tryd.zeroValue35
  t127 := Tryd.underlying72
  a127 := Tryd.isAgg72
  z127 := Tryd.sizeOf72
  v127 := Tryd.zeroValue72 }
theorem Tryd.Builder_Extra_169 : Builder.Extra Tryd.prog Tryd.lays169_ren := {
  sizeBuilder := by kernel_rfl
  liesBuilder := by kernel_rfl
  t5 := Tryd.underlying5
  a5 := Tryd.isAgg5
  z5 := Tryd.sizeOf5
  v5 := Tryd.zeroValue5
  infoByte := by kernel_rfl
  cellsByte := by kernel_rfl
  sizeByte := by kernel_rfl
  neB5 := by decide }
def Tryd.lays161_ren : Go.Shelf.Ren := ⟨fun | 161 => 25 | 231 => 42 | 227 => 43 | 233 => 44 | 235 => 45 | 228 => 69 | 197 => 70 | 151 => 71 | 260 => 91 | 152 => 92 | 137 => 72 | 119 => 100 | 224 => 67 | 225 => 66 | 217 => 65 | 266 => 89 | n => n, fun | 9 => 9 | 4 => 4 | 3 => 3 | 5 => 5 | 117 => 82 | 116 => 81 | 0 => 0 | 124 => 85 | 105 => 101 | 21 => 21 | 119 => 123 | 46 => 100 | 139 => 126 | 138 => 125 | n => n, fun | 3 => 4 | 4 => 5 | n => n⟩
theorem Tryd.lays161 : Go.Proofs.Lays.n161 Tryd.prog Tryd.lays161_ren := {
  mixed := by kernel_rfl
  f119 := Tryd.func100.trans (congrArg some (by kernel_rfl))
  f137 := Tryd.func72.trans (congrArg some (by kernel_rfl))
  f151 := Tryd.func71.trans (congrArg some (by kernel_rfl))
  f152 := Tryd.func92.trans (congrArg some (by kernel_rfl))
  f161 := Tryd.func25.trans (congrArg some (by kernel_rfl))
  f197 := Tryd.func70.trans (congrArg some (by kernel_rfl))
  f217 := Tryd.func65.trans (congrArg some (by kernel_rfl))
  f224 := Tryd.func67.trans (congrArg some (by kernel_rfl))
  f225 := Tryd.func66.trans (congrArg some (by kernel_rfl))
  f227 := Tryd.func43.trans (congrArg some (by kernel_rfl))
  f228 := Tryd.func69.trans (congrArg some (by kernel_rfl))
  f231 := Tryd.func42.trans (congrArg some (by kernel_rfl))
  f233 := Tryd.func44.trans (congrArg some (by kernel_rfl))
  f235 := Tryd.func45.trans (congrArg some (by kernel_rfl))
  f260 := Tryd.func91.trans (congrArg some (by kernel_rfl))
  f266 := Tryd.func89.trans (congrArg some (by kernel_rfl))
  t0 := Tryd.underlying0
  a0 := Tryd.isAgg0
  z0 := Tryd.sizeOf0
  v0 := Tryd.zeroValue0
  t3 := Tryd.underlying3
  a3 := Tryd.isAgg3
  z3 := Tryd.sizeOf3
  v3 := Tryd.zeroValue3
  t4 := Tryd.underlying4
  a4 := Tryd.isAgg4
  z4 := Tryd.sizeOf4
  v4 := Tryd.zeroValue4
  t5 := Tryd.underlying5
  a5 := Tryd.isAgg5
  z5 := Tryd.sizeOf5
  v5 := Tryd.zeroValue5
  t9 := Tryd.underlying9
  a9 := Tryd.isAgg9
  z9 := Tryd.sizeOf9
  v9 := Tryd.zeroValue9
  t21 := Tryd.underlying21
  a21 := Tryd.isAgg21
  z21 := Tryd.sizeOf21
  v21 := Tryd.zeroValue21
  t46 := Tryd.underlying100
  a46 := Tryd.isAgg100
  z46 := Tryd.sizeOf100
  v46 := Tryd.zeroValue100
  t105 := Tryd.underlying101
  a105 := Tryd.isAgg101
  z105 := Tryd.sizeOf101
  v105 := Tryd.zeroValue101
  t116 := Tryd.underlying81
  a116 := Tryd.isAgg81
  z116 := Tryd.sizeOf81
  t117 := Tryd.underlying82
  a117 := Tryd.isAgg82
  z117 := Tryd.sizeOf82
  v117 := Tryd.zeroValue82
  t119 := Tryd.underlying123
  a119 := Tryd.isAgg123
  z119 := Tryd.sizeOf123
  t124 := Tryd.underlying85
  a124 := Tryd.isAgg85
  z124 := Tryd.sizeOf85
  v124 := Tryd.zeroValue85
  t138 := Tryd.underlying125
  a138 := Tryd.isAgg125
  z138 := Tryd.sizeOf125
  v138 := Tryd.zeroValue125
  t139 := Tryd.underlying126
  a139 := Tryd.isAgg126
  z139 := Tryd.sizeOf126
  v139 := Tryd.zeroValue126
  g3 := by kernel_rfl
  g4 := by kernel_rfl }
open Go.RowKit in
theorem Tryd.strings_TrimLeft_one (s : ByteArray) (c : UInt8) (hc : c.toNat < 128) (w : World) :
    Calls Tryd.prog 25 #[.string s, .string ⟨#[c]⟩] w fun e w' => e = .returned (.string ⟨(Lib.trimLeftB s.data.toList c).toArray⟩) ∧ w' = w := Any.strings_TrimLeft_one Tryd.lays161 s c hc w
def Tryd.lays160_ren : Go.Shelf.Ren := ⟨fun | 160 => 56 | 232 => 81 | 231 => 42 | 227 => 43 | 234 => 82 | 233 => 44 | 236 => 83 | 235 => 45 | 228 => 69 | 271 => 97 | 151 => 71 | 197 => 70 | 120 => 102 | 152 => 92 | 260 => 91 | 137 => 72 | 119 => 100 | 224 => 67 | 225 => 66 | 217 => 65 | 266 => 89 | n => n, fun | 9 => 9 | 4 => 4 | 3 => 3 | 5 => 5 | 117 => 82 | 116 => 81 | 0 => 0 | 124 => 85 | 21 => 21 | 105 => 101 | 46 => 100 | 119 => 123 | 139 => 126 | 138 => 125 | n => n, fun | 3 => 4 | 4 => 5 | n => n⟩
theorem Tryd.lays160 : Go.Proofs.Lays.n160 Tryd.prog Tryd.lays160_ren := {
  mixed := by kernel_rfl
  f119 := Tryd.func100.trans (congrArg some (by kernel_rfl))
  f120 := Tryd.func102.trans (congrArg some (by kernel_rfl))
  f137 := Tryd.func72.trans (congrArg some (by kernel_rfl))
  f151 := Tryd.func71.trans (congrArg some (by kernel_rfl))
  f152 := Tryd.func92.trans (congrArg some (by kernel_rfl))
  f160 := Tryd.func56.trans (congrArg some (by kernel_rfl))
  f197 := Tryd.func70.trans (congrArg some (by kernel_rfl))
  f217 := Tryd.func65.trans (congrArg some (by kernel_rfl))
  f224 := Tryd.func67.trans (congrArg some (by kernel_rfl))
  f225 := Tryd.func66.trans (congrArg some (by kernel_rfl))
  f227 := Tryd.func43.trans (congrArg some (by kernel_rfl))
  f228 := Tryd.func69.trans (congrArg some (by kernel_rfl))
  f231 := Tryd.func42.trans (congrArg some (by kernel_rfl))
  f232 := Tryd.func81.trans (congrArg some (by kernel_rfl))
  f233 := Tryd.func44.trans (congrArg some (by kernel_rfl))
  f234 := Tryd.func82.trans (congrArg some (by kernel_rfl))
  f235 := Tryd.func45.trans (congrArg some (by kernel_rfl))
  f236 := Tryd.func83.trans (congrArg some (by kernel_rfl))
  f260 := Tryd.func91.trans (congrArg some (by kernel_rfl))
  f266 := Tryd.func89.trans (congrArg some (by kernel_rfl))
  f271 := Tryd.func97.trans (congrArg some (by kernel_rfl))
  t0 := Tryd.underlying0
  a0 := Tryd.isAgg0
  z0 := Tryd.sizeOf0
  v0 := Tryd.zeroValue0
  t3 := Tryd.underlying3
  a3 := Tryd.isAgg3
  z3 := Tryd.sizeOf3
  v3 := Tryd.zeroValue3
  t4 := Tryd.underlying4
  a4 := Tryd.isAgg4
  z4 := Tryd.sizeOf4
  v4 := Tryd.zeroValue4
  t5 := Tryd.underlying5
  a5 := Tryd.isAgg5
  z5 := Tryd.sizeOf5
  v5 := Tryd.zeroValue5
  t9 := Tryd.underlying9
  a9 := Tryd.isAgg9
  z9 := Tryd.sizeOf9
  v9 := Tryd.zeroValue9
  t21 := Tryd.underlying21
  a21 := Tryd.isAgg21
  z21 := Tryd.sizeOf21
  v21 := Tryd.zeroValue21
  t46 := Tryd.underlying100
  a46 := Tryd.isAgg100
  z46 := Tryd.sizeOf100
  v46 := Tryd.zeroValue100
  t105 := Tryd.underlying101
  a105 := Tryd.isAgg101
  z105 := Tryd.sizeOf101
  v105 := Tryd.zeroValue101
  t116 := Tryd.underlying81
  a116 := Tryd.isAgg81
  z116 := Tryd.sizeOf81
  t117 := Tryd.underlying82
  a117 := Tryd.isAgg82
  z117 := Tryd.sizeOf82
  v117 := Tryd.zeroValue82
  t119 := Tryd.underlying123
  a119 := Tryd.isAgg123
  z119 := Tryd.sizeOf123
  t124 := Tryd.underlying85
  a124 := Tryd.isAgg85
  z124 := Tryd.sizeOf85
  v124 := Tryd.zeroValue85
  t138 := Tryd.underlying125
  a138 := Tryd.isAgg125
  z138 := Tryd.sizeOf125
  v138 := Tryd.zeroValue125
  t139 := Tryd.underlying126
  a139 := Tryd.isAgg126
  z139 := Tryd.sizeOf126
  v139 := Tryd.zeroValue126
  g3 := by kernel_rfl
  g4 := by kernel_rfl }
open Go.RowKit in
theorem Tryd.strings_Trim_one (s : ByteArray) (c : UInt8) (hc : c.toNat < 128) (w : World) (hs : s.size ≤ 9223372036854775807) :
    Calls Tryd.prog 56 #[.string s, .string ⟨#[c]⟩] w fun e w' => e = .returned (.string ⟨(Lib.trimB s.data.toList c).toArray⟩) ∧ (w' = w ∨ w' = w.drew) := Any.strings_Trim_one Tryd.lays160 s c hc w hs
def Tryd.lays137_ren : Go.Shelf.Ren := ⟨fun | 137 => 72 | 217 => 65 | 266 => 89 | n => n, fun | 9 => 9 | 5 => 5 | 3 => 3 | n => n, fun | n => n⟩
theorem Tryd.lays137 : Go.Proofs.Lays.n137 Tryd.prog Tryd.lays137_ren := {
  mixed := by kernel_rfl
  f137 := Tryd.func72.trans (congrArg some (by kernel_rfl))
  f217 := Tryd.func65.trans (congrArg some (by kernel_rfl))
  f266 := Tryd.func89.trans (congrArg some (by kernel_rfl))
  t3 := Tryd.underlying3
  a3 := Tryd.isAgg3
  z3 := Tryd.sizeOf3
  v3 := Tryd.zeroValue3
  t5 := Tryd.underlying5
  a5 := Tryd.isAgg5
  z5 := Tryd.sizeOf5
  v5 := Tryd.zeroValue5
  t9 := Tryd.underlying9
  a9 := Tryd.isAgg9
  z9 := Tryd.sizeOf9
  v9 := Tryd.zeroValue9 }
open Go.RowKit in
theorem Tryd.strings_IndexByte (s : ByteArray) (c : Int) (w : World) :
    Calls Tryd.prog 72 #[.string s, .int .u8 c] w fun e w' => e = .returned (.int .i64 (Lib.indexByte s.data.toList c.toNat.toUInt8)) ∧ w' = w := Any.strings_IndexByte Tryd.lays137 s c w
open Go.RowKit in
theorem Tryd.Builder_Len_f (B b : Nat) (bs : List Value) (w : World) (h : Lib.IsBuilderF 35 5 B b bs w) :
    Calls Tryd.prog 14 #[.pointer (some ⟨b, 0, none⟩)] w fun e w' => e = .returned (.int .i64 bs.length) ∧ w' = w := Any.Builder_Len_f Tryd.lays170 B b bs w h
open Go.RowKit in
theorem Tryd.Builder_String_any_k (B b : Nat) (l : List UInt8) (w : World) (h : Lib.IsBuilderF 35 5 B b (Lib.byteCells l) w) (hBw : B ≤ w.heap.size) :
    Calls Tryd.prog 17 #[.pointer (some ⟨b, 0, none⟩)] w fun e w' => e = .returned (.string ⟨l.toArray⟩) ∧ (Lib.IsBuilderF 35 5 B b (Lib.byteCells l) w' ∧ Below B w w' ∧ Lib.OthersKept 5 (some b) w w') := Any.Builder_String_any_k Tryd.lays169 Tryd.Builder_Extra_169 B b l w h hBw
def Tryd.lays129_ren : Go.Shelf.Ren := ⟨fun | 129 => 85 | n => n, fun | 53 => 60 | 3 => 3 | 4 => 4 | 46 => 100 | 5 => 5 | 9 => 9 | n => n, fun | n => n⟩
theorem Tryd.lays129 : Go.Proofs.Lays.n129 Tryd.prog Tryd.lays129_ren := {
  mixed := by kernel_rfl
  f129 := Tryd.func85.trans (congrArg some (by kernel_rfl))
  t3 := Tryd.underlying3
  a3 := Tryd.isAgg3
  z3 := Tryd.sizeOf3
  v3 := Tryd.zeroValue3
  t4 := Tryd.underlying4
  a4 := Tryd.isAgg4
  z4 := Tryd.sizeOf4
  v4 := Tryd.zeroValue4
  t5 := Tryd.underlying5
  a5 := Tryd.isAgg5
  z5 := Tryd.sizeOf5
  v5 := Tryd.zeroValue5
  t9 := Tryd.underlying9
  a9 := Tryd.isAgg9
  z9 := Tryd.sizeOf9
  v9 := Tryd.zeroValue9
  t46 := Tryd.underlying100
  a46 := Tryd.isAgg100
  z46 := Tryd.sizeOf100
  v46 := Tryd.zeroValue100
  t53 := Tryd.underlying60
  a53 := Tryd.isAgg60
  z53 := Tryd.sizeOf60
  v53 := Tryd.zeroValue60 }
theorem Tryd.bits_Len64 (x : Int) (w : World) (h0 : 0 ≤ x) (h1 : x ≤ 18446744073709551615) :
    Calls Tryd.prog 85 #[.int .u64 x] w fun e w' => e = .returned (.int .i64 (Lib.bitLen x.toNat)) ∧ w' = w := Any.bits_Len64 Tryd.lays129 x w h0 h1
def Tryd.laysM279_ren : Go.Shelf.Ren := ⟨fun | 279 => 76 | 316 => 94 | n => n, fun | 9 => 9 | 168 => 106 | 75 => 43 | 210 => 120 | 3 => 3 | 4 => 4 | 37 => 33 | 0 => 0 | 127 => 72 | 80 => 49 | 5 => 5 | n => n, fun | 15 => 2 | n => n⟩
theorem Tryd.laysM279 : Go.Proofs.LaysM.n279 Tryd.prog Tryd.laysM279_ren := {
  mixed := by kernel_rfl
  f279 := Tryd.func76.trans (congrArg some (by kernel_rfl))
  f316 := Tryd.func94.trans (congrArg some (by kernel_rfl))
  t0 := Tryd.underlying0
  a0 := Tryd.isAgg0
  z0 := Tryd.sizeOf0
  v0 := Tryd.zeroValue0
  t3 := Tryd.underlying3
  a3 := Tryd.isAgg3
  z3 := Tryd.sizeOf3
  v3 := Tryd.zeroValue3
  t4 := Tryd.underlying4
  a4 := Tryd.isAgg4
  z4 := Tryd.sizeOf4
  v4 := Tryd.zeroValue4
  t9 := Tryd.underlying9
  a9 := Tryd.isAgg9
  z9 := Tryd.sizeOf9
  v9 := Tryd.zeroValue9
  t37 := Tryd.underlying33
  a37 := Tryd.isAgg33
  z37 := Tryd.sizeOf33
  v37 := Tryd.zeroValue33
  t75 := Tryd.underlying43
  a75 := Tryd.isAgg43
  z75 := Tryd.sizeOf43
  v75 := Tryd.zeroValue43
  t127 := Tryd.underlying72
  a127 := Tryd.isAgg72
  z127 := Tryd.sizeOf72
  v127 := Tryd.zeroValue72
  t168 := Tryd.underlying106
  a168 := Tryd.isAgg106
  z168 := Tryd.sizeOf106
  v168 := Tryd.zeroValue106
  t210 := Tryd.underlying120
  a210 := Tryd.isAgg120
  z210 := Tryd.sizeOf120
  v210 := Tryd.zeroValue120
  g15 := by kernel_rfl
  t5 := Tryd.underlying5
  a5 := Tryd.isAgg5
  z5 := Tryd.sizeOf5
  v5 := Tryd.zeroValue5
  t80 := Tryd.underlying49
  a80 := Tryd.isAgg49
  z80 := Tryd.sizeOf49
  v80 := Tryd.zeroValue49
  i0 := by kernel_rfl
  i3 := by kernel_rfl
  i4 := by kernel_rfl
  i5 := by kernel_rfl
  i9 := by kernel_rfl
  i37 := by kernel_rfl
  i75 := by kernel_rfl
  i80 := by kernel_rfl
  i127 := by kernel_rfl
  i168 := by kernel_rfl
  i210 := by kernel_rfl
  m15 := by kernel_rfl }
open Go.RowKit in
theorem Tryd.strconv_syntaxError (fn s : ByteArray) (ev : Value) (w : World) (hlim : s.size ≤ 281474976710656) (hv : w.cell? ⟨2, 0, none⟩ = some ev) (hev : ev = .nilIface ∨ ∃ te pe, ev = .iface te pe) :
    Calls Tryd.prog 76 #[.string fn, .string s] w fun e w' => ∃ N, e = .returned (.pointer (some ⟨N, 0, none⟩)) ∧ w.heap.size ≤ N ∧ w'.heap[N]? = some (.cells #[.string fn, .string s, ev] 120 (0, 0)) ∧ Below w.heap.size w w' := Any.strconv_syntaxError Tryd.laysM279 fn s ev w hlim hv hev
def Tryd.laysC245_ren : Go.Shelf.Ren := ⟨fun | 245 => 52 | 279 => 76 | 280 => 77 | 281 => 78 | 282 => 79 | 316 => 94 | 171 => 96 | 205 => 95 | 243 => 101 | 246 => 40 | 283 => 61 | 284 => 62 | 285 => 63 | 286 => 64 | 129 => 85 | 317 => 84 | 318 => 86 | 319 => 87 | 320 => 88 | 337 => 98 | 338 => 99 | n => n, fun | 9 => 9 | 3 => 3 | 75 => 43 | 167 => 104 | 4 => 4 | 168 => 106 | 210 => 120 | 37 => 33 | 0 => 0 | 127 => 72 | 145 => 130 | 143 => 128 | 2 => 2 | 171 => 93 | 53 => 60 | 5 => 5 | 173 => 96 | 212 => 110 | 51 => 111 | 20 => 20 | 213 => 112 | 46 => 100 | 232 => 131 | 233 => 132 | 80 => 49 | n => n, fun | 15 => 2 | 16 => 3 | 17 => 1 | 18 => 6 | 19 => 7 | n => n⟩
theorem Tryd.laysC245 : Go.Proofs.LaysC.n245 Tryd.prog Tryd.laysC245_ren := {
  mixed := by kernel_rfl
  f129 := Tryd.func85.trans (congrArg some (by kernel_rfl))
  f171 := Tryd.func96.trans (congrArg some (by kernel_rfl))
  f205 := Tryd.func95.trans (congrArg some (by kernel_rfl))
  f243 := Tryd.func101.trans (congrArg some (by kernel_rfl))
  f245 := Tryd.func52.trans (congrArg some (by kernel_rfl))
  f246 := Tryd.func40.trans (congrArg some (by kernel_rfl))
  f279 := Tryd.func76.trans (congrArg some (by kernel_rfl))
  f280 := Tryd.func77.trans (congrArg some (by kernel_rfl))
  f281 := Tryd.func78.trans (congrArg some (by kernel_rfl))
  f282 := Tryd.func79.trans (congrArg some (by kernel_rfl))
  f283 := Tryd.func61.trans (congrArg some (by kernel_rfl))
  f284 := Tryd.func62.trans (congrArg some (by kernel_rfl))
  f285 := Tryd.func63.trans (congrArg some (by kernel_rfl))
  f286 := Tryd.func64.trans (congrArg some (by kernel_rfl))
  f316 := Tryd.func94.trans (congrArg some (by kernel_rfl))
  f317 := Tryd.func84.trans (congrArg some (by kernel_rfl))
  f318 := Tryd.func86.trans (congrArg some (by kernel_rfl))
  f319 := Tryd.func87.trans (congrArg some (by kernel_rfl))
  f320 := Tryd.func88.trans (congrArg some (by kernel_rfl))
  f337 := Tryd.func98.trans (congrArg some (by kernel_rfl))
  f338 := Tryd.func99.trans (congrArg some (by kernel_rfl))
  t0 := Tryd.underlying0
  a0 := Tryd.isAgg0
  z0 := Tryd.sizeOf0
  v0 := Tryd.zeroValue0
  t2 := Tryd.underlying2
  a2 := Tryd.isAgg2
  z2 := Tryd.sizeOf2
  v2 := Tryd.zeroValue2
  t3 := Tryd.underlying3
  a3 := Tryd.isAgg3
  z3 := Tryd.sizeOf3
  v3 := Tryd.zeroValue3
  t4 := Tryd.underlying4
  a4 := Tryd.isAgg4
  z4 := Tryd.sizeOf4
  v4 := Tryd.zeroValue4
  t5 := Tryd.underlying5
  a5 := Tryd.isAgg5
  z5 := Tryd.sizeOf5
  v5 := Tryd.zeroValue5
  t9 := Tryd.underlying9
  a9 := Tryd.isAgg9
  z9 := Tryd.sizeOf9
  v9 := Tryd.zeroValue9
  t20 := Tryd.underlying20
  a20 := Tryd.isAgg20
  z20 := Tryd.sizeOf20
  v20 := Tryd.zeroValue20
  t37 := Tryd.underlying33
  a37 := Tryd.isAgg33
  z37 := Tryd.sizeOf33
  v37 := Tryd.zeroValue33
  t46 := Tryd.underlying100
  a46 := Tryd.isAgg100
  z46 := Tryd.sizeOf100
  v46 := Tryd.zeroValue100
  t51 := Tryd.underlying111
  a51 := Tryd.isAgg111
  z51 := Tryd.sizeOf111
  v51 := Tryd.zeroValue111
  t53 := Tryd.underlying60
  a53 := Tryd.isAgg60
  z53 := Tryd.sizeOf60
  v53 := Tryd.zeroValue60
  t75 := Tryd.underlying43
  a75 := Tryd.isAgg43
  z75 := Tryd.sizeOf43
  v75 := Tryd.zeroValue43
  t127 := Tryd.underlying72
  a127 := Tryd.isAgg72
  z127 := Tryd.sizeOf72
  v127 := Tryd.zeroValue72
  t143 := Tryd.underlying128
  a143 := Tryd.isAgg128
  z143 := Tryd.sizeOf128
  v143 := Tryd.zeroValue128
  t145 := Tryd.underlying130
  a145 := Tryd.isAgg130
  z145 := Tryd.sizeOf130
  v145 := Tryd.zeroValue130
  t167 := Tryd.underlying104
  a167 := Tryd.isAgg104
  z167 := Tryd.sizeOf104
  v167 := Tryd.zeroValue104
  t168 := Tryd.underlying106
  a168 := Tryd.isAgg106
  z168 := Tryd.sizeOf106
  v168 := Tryd.zeroValue106
  t171 := Tryd.underlying93
  a171 := Tryd.isAgg93
  z171 := Tryd.sizeOf93
  v171 := Tryd.zeroValue93
  t173 := Tryd.underlying96
  a173 := Tryd.isAgg96
  z173 := Tryd.sizeOf96
  v173 := Tryd.zeroValue96
  t210 := Tryd.underlying120
  a210 := Tryd.isAgg120
  z210 := Tryd.sizeOf120
  v210 := Tryd.zeroValue120
  t212 := Tryd.underlying110
  a212 := Tryd.isAgg110
  z212 := Tryd.sizeOf110
  v212 := Tryd.zeroValue110
  t213 := Tryd.underlying112
  a213 := Tryd.isAgg112
  z213 := Tryd.sizeOf112
  t232 := Tryd.underlying131
  a232 := Tryd.isAgg131
  z232 := Tryd.sizeOf131
  v232 := Tryd.zeroValue131
  t233 := Tryd.underlying132
  a233 := Tryd.isAgg132
  z233 := Tryd.sizeOf132
  v233 := Tryd.zeroValue132
  g15 := by kernel_rfl
  g16 := by kernel_rfl
  g17 := by kernel_rfl
  g18 := by kernel_rfl
  g19 := by kernel_rfl
  t80 := Tryd.underlying49
  a80 := Tryd.isAgg49
  z80 := Tryd.sizeOf49
  v80 := Tryd.zeroValue49
  i0 := by kernel_rfl
  i2 := by kernel_rfl
  i3 := by kernel_rfl
  i4 := by kernel_rfl
  i5 := by kernel_rfl
  i9 := by kernel_rfl
  i20 := by kernel_rfl
  i37 := by kernel_rfl
  i46 := by kernel_rfl
  i51 := by kernel_rfl
  i53 := by kernel_rfl
  i75 := by kernel_rfl
  i80 := by kernel_rfl
  i127 := by kernel_rfl
  i143 := by kernel_rfl
  i145 := by kernel_rfl
  i167 := by kernel_rfl
  i168 := by kernel_rfl
  i171 := by kernel_rfl
  i173 := by kernel_rfl
  i210 := by kernel_rfl
  i212 := by kernel_rfl
  i232 := by kernel_rfl
  i233 := by kernel_rfl
  m15 := by kernel_rfl
  m16 := by kernel_rfl
  m17 := by kernel_rfl
  m18 := by kernel_rfl
  m19 := by kernel_rfl
  c0 := by kernel_rfl
  c2 := by kernel_rfl
  c3 := by kernel_rfl
  c4 := by kernel_rfl
  c5 := by kernel_rfl
  c9 := by kernel_rfl
  c20 := by kernel_rfl
  c37 := by kernel_rfl
  c46 := by kernel_rfl
  c51 := by kernel_rfl
  c53 := by kernel_rfl
  c75 := by kernel_rfl
  c80 := by kernel_rfl
  c127 := by kernel_rfl
  c143 := by kernel_rfl
  c145 := by kernel_rfl
  c167 := by kernel_rfl
  c168 := by kernel_rfl
  c171 := by kernel_rfl
  c173 := by kernel_rfl
  c210 := by kernel_rfl
  c212 := by kernel_rfl
  c213 := by kernel_rfl
  c232 := by kernel_rfl
  c233 := by kernel_rfl }
open Go.RowKit in
theorem Tryd.strconv_toError_syntax (fn s : ByteArray) (base bits : Int) (ev : Value) (w : World) (hlim : s.size ≤ 281474976710656) (hv : w.cell? ⟨2, 0, none⟩ = some ev) (hev : ev = .nilIface ∨ ∃ te pe, ev = .iface te pe) :
    Calls Tryd.prog 52 #[.string fn, .string s, .int .i64 base, .int .i64 bits, .iface 104 (.int .i64 2)] w fun e w' => ∃ N, e = .returned (.iface 106 (.pointer (some ⟨N, 0, none⟩))) ∧ w.heap.size ≤ N ∧ w'.heap[N]? = some (.cells #[.string fn, .string s, ev] 120 (0, 0)) ∧ Below w.heap.size w w' := Any.strconv_toError_syntax Tryd.laysC245 fn s base bits ev w hlim hv hev
def Tryd.lays321_ren : Go.Shelf.Ren := ⟨fun | 321 => 74 | n => n, fun | 5 => 5 | n => n, fun | n => n⟩
theorem Tryd.lays321 : Go.Proofs.Lays.n321 Tryd.prog Tryd.lays321_ren := {
  mixed := by kernel_rfl
  f321 := Tryd.func74.trans (congrArg some (by kernel_rfl))
  t5 := Tryd.underlying5
  a5 := Tryd.isAgg5
  z5 := Tryd.sizeOf5
  v5 := Tryd.zeroValue5 }
open Go.RowKit in
theorem Tryd.internal_strconv_lower (c : Int) (w : World) :
    Calls Tryd.prog 74 #[.int .u8 c] w fun e w' => e = .returned (.int .u8 (bits .or .u8 c 32)) ∧ w' = w := Any.internal_strconv_lower Tryd.lays321 c w
def Tryd.laysM280_ren : Go.Shelf.Ren := ⟨fun | 280 => 77 | 316 => 94 | n => n, fun | 9 => 9 | 168 => 106 | 75 => 43 | 210 => 120 | 3 => 3 | 4 => 4 | 37 => 33 | 0 => 0 | 127 => 72 | 80 => 49 | 5 => 5 | n => n, fun | 16 => 3 | n => n⟩
theorem Tryd.laysM280 : Go.Proofs.LaysM.n280 Tryd.prog Tryd.laysM280_ren := {
  mixed := by kernel_rfl
  f280 := Tryd.func77.trans (congrArg some (by kernel_rfl))
  f316 := Tryd.func94.trans (congrArg some (by kernel_rfl))
  t0 := Tryd.underlying0
  a0 := Tryd.isAgg0
  z0 := Tryd.sizeOf0
  v0 := Tryd.zeroValue0
  t3 := Tryd.underlying3
  a3 := Tryd.isAgg3
  z3 := Tryd.sizeOf3
  v3 := Tryd.zeroValue3
  t4 := Tryd.underlying4
  a4 := Tryd.isAgg4
  z4 := Tryd.sizeOf4
  v4 := Tryd.zeroValue4
  t9 := Tryd.underlying9
  a9 := Tryd.isAgg9
  z9 := Tryd.sizeOf9
  v9 := Tryd.zeroValue9
  t37 := Tryd.underlying33
  a37 := Tryd.isAgg33
  z37 := Tryd.sizeOf33
  v37 := Tryd.zeroValue33
  t75 := Tryd.underlying43
  a75 := Tryd.isAgg43
  z75 := Tryd.sizeOf43
  v75 := Tryd.zeroValue43
  t127 := Tryd.underlying72
  a127 := Tryd.isAgg72
  z127 := Tryd.sizeOf72
  v127 := Tryd.zeroValue72
  t168 := Tryd.underlying106
  a168 := Tryd.isAgg106
  z168 := Tryd.sizeOf106
  v168 := Tryd.zeroValue106
  t210 := Tryd.underlying120
  a210 := Tryd.isAgg120
  z210 := Tryd.sizeOf120
  v210 := Tryd.zeroValue120
  g16 := by kernel_rfl
  t5 := Tryd.underlying5
  a5 := Tryd.isAgg5
  z5 := Tryd.sizeOf5
  v5 := Tryd.zeroValue5
  t80 := Tryd.underlying49
  a80 := Tryd.isAgg49
  z80 := Tryd.sizeOf49
  v80 := Tryd.zeroValue49
  i0 := by kernel_rfl
  i3 := by kernel_rfl
  i4 := by kernel_rfl
  i5 := by kernel_rfl
  i9 := by kernel_rfl
  i37 := by kernel_rfl
  i75 := by kernel_rfl
  i80 := by kernel_rfl
  i127 := by kernel_rfl
  i168 := by kernel_rfl
  i210 := by kernel_rfl
  m16 := by kernel_rfl }
open Go.RowKit in
theorem Tryd.strconv_rangeError (fn s : ByteArray) (ev : Value) (w : World) (hlim : s.size ≤ 281474976710656) (hv : w.cell? ⟨3, 0, none⟩ = some ev) (hev : ev = .nilIface ∨ ∃ te pe, ev = .iface te pe) :
    Calls Tryd.prog 77 #[.string fn, .string s] w fun e w' => ∃ N, e = .returned (.pointer (some ⟨N, 0, none⟩)) ∧ w.heap.size ≤ N ∧ w'.heap[N]? = some (.cells #[.string fn, .string s, ev] 120 (0, 0)) ∧ Below w.heap.size w w' := Any.strconv_rangeError Tryd.laysM280 fn s ev w hlim hv hev
open Go.RowKit in
theorem Tryd.strconv_toError_range (fn s : ByteArray) (base bits : Int) (ev : Value) (w : World) (hlim : s.size ≤ 281474976710656) (hv : w.cell? ⟨3, 0, none⟩ = some ev) (hev : ev = .nilIface ∨ ∃ te pe, ev = .iface te pe) :
    Calls Tryd.prog 52 #[.string fn, .string s, .int .i64 base, .int .i64 bits, .iface 104 (.int .i64 1)] w fun e w' => ∃ N, e = .returned (.iface 106 (.pointer (some ⟨N, 0, none⟩))) ∧ w.heap.size ≤ N ∧ w'.heap[N]? = some (.cells #[.string fn, .string s, ev] 120 (0, 0)) ∧ Below w.heap.size w w' := Any.strconv_toError_range Tryd.laysC245 fn s base bits ev w hlim hv hev
def Tryd.lays145_ren : Go.Shelf.Ren := ⟨fun | 145 => 11 | 220 => 24 | 219 => 41 | 217 => 65 | 225 => 66 | 224 => 67 | 267 => 68 | 266 => 89 | 314 => 90 | n => n, fun | 9 => 9 | 4 => 4 | 59 => 36 | 3 => 3 | 5 => 5 | 46 => 100 | 146 => 115 | 51 => 111 | n => n, fun | 1 => 0 | n => n⟩
theorem Tryd.lays145 : Go.Proofs.Lays.n145 Tryd.prog Tryd.lays145_ren := {
  mixed := by kernel_rfl
  f145 := Tryd.func11.trans (congrArg some (by kernel_rfl))
  f217 := Tryd.func65.trans (congrArg some (by kernel_rfl))
  f219 := Tryd.func41.trans (congrArg some (by kernel_rfl))
  f220 := Tryd.func24.trans (congrArg some (by kernel_rfl))
  f224 := Tryd.func67.trans (congrArg some (by kernel_rfl))
  f225 := Tryd.func66.trans (congrArg some (by kernel_rfl))
  f266 := Tryd.func89.trans (congrArg some (by kernel_rfl))
  f267 := Tryd.func68.trans (congrArg some (by kernel_rfl))
  f314 := Tryd.func90.trans (congrArg some (by kernel_rfl))
  t3 := Tryd.underlying3
  a3 := Tryd.isAgg3
  z3 := Tryd.sizeOf3
  v3 := Tryd.zeroValue3
  t4 := Tryd.underlying4
  a4 := Tryd.isAgg4
  z4 := Tryd.sizeOf4
  v4 := Tryd.zeroValue4
  t5 := Tryd.underlying5
  a5 := Tryd.isAgg5
  z5 := Tryd.sizeOf5
  v5 := Tryd.zeroValue5
  t9 := Tryd.underlying9
  a9 := Tryd.isAgg9
  z9 := Tryd.sizeOf9
  v9 := Tryd.zeroValue9
  t46 := Tryd.underlying100
  a46 := Tryd.isAgg100
  z46 := Tryd.sizeOf100
  v46 := Tryd.zeroValue100
  t51 := Tryd.underlying111
  a51 := Tryd.isAgg111
  z51 := Tryd.sizeOf111
  v51 := Tryd.zeroValue111
  t59 := Tryd.underlying36
  a59 := Tryd.isAgg36
  z59 := Tryd.sizeOf36
  v59 := Tryd.zeroValue36
  t146 := Tryd.underlying115
  a146 := Tryd.isAgg115
  z146 := Tryd.sizeOf115
  v146 := Tryd.zeroValue115
  g1 := by kernel_rfl }
open Go.RowKit Go.Lib in
theorem Tryd.strings_Cut (s sep : ByteArray) (m : Int) (w : World) (hs : s.size < 4294967281) (hm : w.cell? ⟨0, 0, none⟩ = some (.int .i64 m)) :
    Calls Tryd.prog 11 #[.string s, .string sep] w fun e w' => e = .returned (.tuple #[.string ⟨(Lib.cut s.data.toList sep.data.toList).1.toArray⟩, .string ⟨(Lib.cut s.data.toList sep.data.toList).2.1.toArray⟩, .bool (Lib.cut s.data.toList sep.data.toList).2.2]) ∧ ∃ n, w' = w.drewN n := Any.strings_Cut Tryd.lays145 s sep m w hs hm
def Tryd.lays206_ren : Go.Shelf.Ren := ⟨fun | 206 => 80 | n => n, fun | 9 => 9 | 4 => 4 | 3 => 3 | n => n, fun | n => n⟩
theorem Tryd.lays206 : Go.Proofs.Lays.n206 Tryd.prog Tryd.lays206_ren := {
  mixed := by kernel_rfl
  f206 := Tryd.func80.trans (congrArg some (by kernel_rfl))
  t3 := Tryd.underlying3
  a3 := Tryd.isAgg3
  z3 := Tryd.sizeOf3
  v3 := Tryd.zeroValue3
  t4 := Tryd.underlying4
  a4 := Tryd.isAgg4
  z4 := Tryd.sizeOf4
  v4 := Tryd.zeroValue4
  t9 := Tryd.underlying9
  a9 := Tryd.isAgg9
  z9 := Tryd.sizeOf9
  v9 := Tryd.zeroValue9 }
open Go.RowKit Go.Lib in
theorem Tryd.stringslite_HasPrefix (s p : ByteArray) (w : World) :
    Calls Tryd.prog 80 #[.string s, .string p] w fun e w' => e = .returned (.bool (Lib.hasPrefix s.data.toList p.data.toList)) ∧ w' = w := Any.stringslite_HasPrefix Tryd.lays206 s p w
def Tryd.lays166_ren : Go.Shelf.Ren := ⟨fun | 166 => 15 | 240 => 29 | 276 => 54 | n => n, fun | 0 => 0 | 3 => 3 | 4 => 4 | 5 => 5 | 9 => 9 | 20 => 20 | 37 => 33 | 70 => 32 | 72 => 35 | 75 => 43 | 80 => 49 | 164 => 89 | n => n, fun | n => n⟩
theorem Tryd.lays166 : Go.Proofs.Lays.n166 Tryd.prog Tryd.lays166_ren := {
  mixed := by kernel_rfl
  f166 := Tryd.func15.trans (congrArg some (by kernel_rfl))
  f240 := Tryd.func29.trans (congrArg some (by kernel_rfl))
  f276 := Tryd.func54.trans (congrArg some (by kernel_rfl))
  t0 := Tryd.underlying0
  a0 := Tryd.isAgg0
  z0 := Tryd.sizeOf0
  v0 := Tryd.zeroValue0
  t3 := Tryd.underlying3
  a3 := Tryd.isAgg3
  z3 := Tryd.sizeOf3
  v3 := Tryd.zeroValue3
  t4 := Tryd.underlying4
  a4 := Tryd.isAgg4
  z4 := Tryd.sizeOf4
  v4 := Tryd.zeroValue4
  t9 := Tryd.underlying9
  a9 := Tryd.isAgg9
  z9 := Tryd.sizeOf9
  v9 := Tryd.zeroValue9
  t20 := Tryd.underlying20
  a20 := Tryd.isAgg20
  z20 := Tryd.sizeOf20
  v20 := Tryd.zeroValue20
  t37 := Tryd.underlying33
  a37 := Tryd.isAgg33
  z37 := Tryd.sizeOf33
  v37 := Tryd.zeroValue33
  t70 := Tryd.underlying32
  a70 := Tryd.isAgg32
  z70 := Tryd.sizeOf32
  v70 := Tryd.zeroValue32
  t72 := Tryd.underlying35
  a72 := Tryd.isAgg35
  z72 := Tryd.sizeOf35
  v72 := Tryd.zeroValue35
  t75 := Tryd.underlying43
  a75 := Tryd.isAgg43
  z75 := Tryd.sizeOf43
  v75 := Tryd.zeroValue43
  t164 := Tryd.underlying89
  a164 := Tryd.isAgg89
  z164 := Tryd.sizeOf89
  v164 := Tryd.zeroValue89 }

theorem Tryd.Builder_Extra_166 : Builder.Extra Tryd.prog Tryd.lays166_ren := {
  sizeBuilder := by kernel_rfl
  liesBuilder := by kernel_rfl
  t5 := Tryd.underlying5
  a5 := Tryd.isAgg5
  z5 := Tryd.sizeOf5
  v5 := Tryd.zeroValue5
  infoByte := by kernel_rfl
  cellsByte := by kernel_rfl
  sizeByte := by kernel_rfl
  neB5 := by decide }

open Go.RowKit in
theorem Tryd.Builder_WriteString_k (B b : Nat) (bs : List Value) (s : ByteArray) (w : World) (h : Lib.IsBuilderF 35 5 B b bs w) (hlen : bs.length + s.size ≤ 140737488355328) (hBw : B ≤ w.heap.size) :
    Calls Tryd.prog 15 #[.pointer (some ⟨b, 0, none⟩), .string s] w fun e w' => e = .returned (.tuple #[.int .i64 s.size, .nilIface]) ∧ (Lib.BuilderAtF 35 5 B b (.pointer (some ⟨b, 0, none⟩)) (bs ++ Lib.strCells s) w' ∧ Below B w w' ∧ Lib.OthersKept 5 (some b) w w') := Any.Builder_WriteString_k Tryd.lays166 Tryd.Builder_Extra_166 B b bs s w h hlen hBw

def Tryd.lays167_ren : Go.Shelf.Ren := ⟨fun | 167 => 93 | 240 => 29 | 276 => 54 | n => n, fun | 0 => 0 | 4 => 4 | 5 => 5 | 9 => 9 | 20 => 20 | 37 => 33 | 70 => 32 | 72 => 35 | 75 => 43 | 80 => 49 | 164 => 89 | n => n, fun | n => n⟩
theorem Tryd.lays167 : Go.Proofs.Lays.n167 Tryd.prog Tryd.lays167_ren := {
  mixed := by kernel_rfl
  f167 := Tryd.func93.trans (congrArg some (by kernel_rfl))
  f240 := Tryd.func29.trans (congrArg some (by kernel_rfl))
  f276 := Tryd.func54.trans (congrArg some (by kernel_rfl))
  t0 := Tryd.underlying0
  a0 := Tryd.isAgg0
  z0 := Tryd.sizeOf0
  v0 := Tryd.zeroValue0
  t4 := Tryd.underlying4
  a4 := Tryd.isAgg4
  z4 := Tryd.sizeOf4
  v4 := Tryd.zeroValue4
  t5 := Tryd.underlying5
  a5 := Tryd.isAgg5
  z5 := Tryd.sizeOf5
  v5 := Tryd.zeroValue5
  t9 := Tryd.underlying9
  a9 := Tryd.isAgg9
  z9 := Tryd.sizeOf9
  v9 := Tryd.zeroValue9
  t20 := Tryd.underlying20
  a20 := Tryd.isAgg20
  z20 := Tryd.sizeOf20
  v20 := Tryd.zeroValue20
  t37 := Tryd.underlying33
  a37 := Tryd.isAgg33
  z37 := Tryd.sizeOf33
  v37 := Tryd.zeroValue33
  t70 := Tryd.underlying32
  a70 := Tryd.isAgg32
  z70 := Tryd.sizeOf32
  v70 := Tryd.zeroValue32
  t72 := Tryd.underlying35
  a72 := Tryd.isAgg35
  z72 := Tryd.sizeOf35
  v72 := Tryd.zeroValue35
  t75 := Tryd.underlying43
  a75 := Tryd.isAgg43
  z75 := Tryd.sizeOf43
  v75 := Tryd.zeroValue43
  t164 := Tryd.underlying89
  a164 := Tryd.isAgg89
  z164 := Tryd.sizeOf89
  v164 := Tryd.zeroValue89 }

theorem Tryd.Builder_Extra_167 : Builder.Extra Tryd.prog Tryd.lays167_ren := {
  sizeBuilder := by kernel_rfl
  liesBuilder := by kernel_rfl
  t5 := Tryd.underlying5
  a5 := Tryd.isAgg5
  z5 := Tryd.sizeOf5
  v5 := Tryd.zeroValue5
  infoByte := by kernel_rfl
  cellsByte := by kernel_rfl
  sizeByte := by kernel_rfl
  neB5 := by decide }

open Go.RowKit in
theorem Tryd.Builder_WriteByte_k (B b : Nat) (bs : List Value) (c : Int) (w : World) (h : Lib.IsBuilderF 35 5 B b bs w) (hlen : bs.length + 1 ≤ 140737488355328) (hBw : B ≤ w.heap.size) :
    Calls Tryd.prog 93 #[.pointer (some ⟨b, 0, none⟩), .int .u8 c] w fun e w' => e = .returned .nilIface ∧ (Lib.BuilderAtF 35 5 B b (.pointer (some ⟨b, 0, none⟩)) (bs ++ [.int .u8 c]) w' ∧ Below B w w' ∧ Lib.OthersKept 5 (some b) w w') := Any.Builder_WriteByte_k Tryd.lays167 Tryd.Builder_Extra_167 B b bs c w h hlen hBw
end Go.Proofs

/- Glob -/
namespace Go.Proofs.YteonhdfjfjpbjaaDoor.O
open Go.RowKit Go.Proofs.YteonhdfjfjpbjaaDoorW.PrintWords Go.Proofs.YteonhdfjfjpbjaaDoorW.PrintLast Go.Proofs.YteonhdfjfjpbjaaDoorW.PrintMore
set_option linter.unusedVariables false
set_option linter.unusedSimpArgs false

structure Glob (w : World) : Prop where
  pow : Lib.TabIs Tryd.prog w "internal/strconv.uint64pow10" .u64 Lib.pow10Tab
  mlen : ∃ m, w.var? Tryd.prog "internal/bytealg.MaxLen" = some #[.int .i64 m]
  syn : ∃ t p, w.var? Tryd.prog "strconv.ErrSyntax" = some #[.iface t p]
  rng : ∃ t p, w.var? Tryd.prog "strconv.ErrRange" = some #[.iface t p]
  bru : Lib.TabIs Tryd.prog w "math/bits.deBruijn64tab" .u8 (Lib.deBruijn64tab.map Int.ofNat)
theorem gpow : Tryd.prog.globalNamed "internal/strconv.uint64pow10" = some 1 := by kernel_rfl
theorem gmlen : Tryd.prog.globalNamed "internal/bytealg.MaxLen" = some 0 := by kernel_rfl
theorem gsyn : Tryd.prog.globalNamed "strconv.ErrSyntax" = some 2 := by kernel_rfl
theorem grng : Tryd.prog.globalNamed "strconv.ErrRange" = some 3 := by kernel_rfl
theorem gbru : Tryd.prog.globalNamed "math/bits.deBruijn64tab" = some 7 := by kernel_rfl
theorem Glob.below {w w' : World} (h : Glob w) (hb : Below w.heap.size w w') : Glob w' := by
  obtain ⟨h1, ⟨m, h2⟩, ⟨t3, p3, h3⟩, ⟨t4, p4, h4⟩, h5⟩ := h
  exact ⟨Joins.var_stays gpow h1 hb (Nat.le_refl _), ⟨m, Joins.var_stays gmlen h2 hb (Nat.le_refl _)⟩, ⟨t3, p3, Joins.var_stays gsyn h3 hb (Nat.le_refl _)⟩, ⟨t4, p4, Joins.var_stays grng h4 hb (Nat.le_refl _)⟩, Joins.var_stays gbru h5 hb (Nat.le_refl _)⟩
theorem Glob.cell {w : World} (h : Glob w) : ∃ m, w.cell? ⟨0, 0, none⟩ = some (.int .i64 m) := by
  obtain ⟨m, hm⟩ := h.mlen
  exact ⟨m, by have h0 := World.var?_cell gmlen hm 0; simpa using h0⟩
/-- An error of the library's: none, or some interface value. -/
def ErrIs : Option Int → Value → Prop
  | none, v => v = .nilIface
  | some _, v => ∃ t p, v = .iface t p
theorem ErrIs.none_ {v : Value} (h : ErrIs none v) : v = .nilIface := h
theorem ErrIs.some_ {c : Int} {v : Value} (h : ErrIs (some c) v) : ∃ t p, v = .iface t p := h
theorem below_bytes (w : World) (e : TypeId) (s : ByteArray) : Below w.heap.size w (Lib.bytesWorld w e s) :=
  ⟨rfl, rfl, rfl, by rw [Lib.bytesWorld_size]; omega, fun i hi => Lib.bytesWorld_at_old w e s i hi⟩
theorem below_grown_ (w : World) (k : Nat) (os : Array Obj) : Below w.heap.size w (Sort.grow (w.drewN k) os) :=
  ⟨rfl, rfl, rfl, by show w.heap.size ≤ (w.heap ++ os).size; rw [Array.size_append]; omega, fun j hj => by
    show (w.heap ++ os)[j]? = w.heap[j]?
    rw [Array.getElem?_append_left hj]⟩
theorem bt_getD (s : ByteArray) (k : Nat) (h : k < s.size) : ((s.data.toList.getD k 0).toNat : Int) = bt s k := by
  unfold bt
  have h2 : k < s.data.size := h
  simp [h, List.getD_eq_getElem?_getD]
  rfl
theorem ret_int {k : IntKind} {a b : Int} (h : a = b) : Ending.returned (.int k a) = .returned (.int k b) := by rw [h]
theorem ret_str {a b : ByteArray} (h : a = b) : Ending.returned (.string a) = .returned (.string b) := by rw [h]
theorem ret_bool {a b : Bool} (h : a = b) : Ending.returned (.bool a) = .returned (.bool b) := by rw [h]
end Go.Proofs.YteonhdfjfjpbjaaDoor.O

/- Otrim -/
namespace Go.Proofs.YteonhdfjfjpbjaaDoor.O
open Go.RowKit Go.Proofs.YteonhdfjfjpbjaaDoorW.PrintWords Go.Proofs.YteonhdfjfjpbjaaDoorW.PrintLast Go.Proofs.YteonhdfjfjpbjaaDoorW.PrintMore
set_option linter.unusedVariables false
set_option linter.unusedSimpArgs false

def asciiB (s : ByteArray) : Bool := s.data.toList.all fun b => decide (b.toNat < 128)
def strings_TrimLeft.f (a0 a1 : ByteArray) : Option ByteArray := if a1.size < 4294967281 ∧ asciiB a1 = true then some ⟨(Lib.trimLeftS a0.data.toList a1.data.toList).toArray⟩ else none
theorem strings_TrimLeft.calls (a0 a1 : ByteArray) (r : ByteArray) (w : World) (h : strings_TrimLeft.f a0 a1 = some r) :
    Calls Tryd.prog 25 #[.string a0, .string a1] w fun e w' => e = .returned (.string r) ∧ Below w.heap.size w w' := by
  unfold strings_TrimLeft.f at h
  split at h
  case isFalse => exact absurd h (by simp)
  rename_i hb
  obtain rfl := Option.some.inj h
  exact Any.strings_TrimLeft_laid Tryd.lays161 (by kernel_rfl) a0 a1 w hb.1 (ascii_of_all hb.2)
def strings_Trim.f (a0 a1 : ByteArray) : Option ByteArray := if a0.size ≤ 9223372036854775807 ∧ a1.size < 4294967281 ∧ asciiB a1 = true then some ⟨(Lib.trimS a0.data.toList a1.data.toList).toArray⟩ else none
theorem strings_Trim.calls (a0 a1 : ByteArray) (r : ByteArray) (w : World) (h : strings_Trim.f a0 a1 = some r) :
    Calls Tryd.prog 56 #[.string a0, .string a1] w fun e w' => e = .returned (.string r) ∧ Below w.heap.size w w' := by
  unfold strings_Trim.f at h
  split at h
  case isFalse => exact absurd h (by simp)
  rename_i hb
  obtain rfl := Option.some.inj h
  exact Any.strings_Trim_laid Tryd.lays160 (by kernel_rfl) a0 a1 w hb.1 hb.2.1 (ascii_of_all hb.2.2)
end Go.Proofs.YteonhdfjfjpbjaaDoor.O

/- Px1 -/
namespace Go.Proofs.YteonhdfjfjpbjaaDoor.P
open Go.Proofs.YteonhdfjfjpbjaaDoor.B
open Go.RowKit Go.Proofs.YteonhdfjfjpbjaaDoorW.PrintWords Go.Proofs.YteonhdfjfjpbjaaDoorW.PrintLast Go.Proofs.YteonhdfjfjpbjaaDoorW.PrintMore
attribute [local go_sem] str_leq str_gtr str_geq max2_int min2_int max_two min_two max_three min_three max_four min_four   -- for this text's walks alone
set_option linter.unusedVariables false
set_option linter.unusedSimpArgs false

open Go.Proofs.YteonhdfjfjpbjaaDoor.O
/-! ### media_Text_Skip: function 46 -/
def media_Text_Skip.f (s0_0 : ByteArray) : Option (ByteArray) := (strings_TrimLeft.f s0_0 (⟨#[32, 9]⟩ : ByteArray)).bind fun t101 => (some t101)
set_option maxHeartbeats 8000000 in
set_option maxRecDepth 100000 in
theorem media_Text_Skip.calls (g : Nat) (s0_0 : ByteArray) (r : ByteArray) (w0 w : World) (hI : IsS58 w0 w g s0_0) (hB : Below w0.heap.size w0 w) (h : media_Text_Skip.f s0_0 = some r) :
    Calls Tryd.prog 46 #[.pointer (some ⟨g, 0, none⟩)] w fun e w' => e = .returned (.tuple #[]) ∧ IsS58 w0 w' g r ∧ Below w0.heap.size w0 w' ∧ KeepBut w w' g none := by
  have HI0 := Aside0.mk hI
  have HK := Aside0.mk (KeepBut.refl w g none)
  have HL := Aside0.mk hB.size
  clear hI
  have HW0 := Aside0.mk hB.size
  have HB := Aside0.mk hB
  clear hB
  have H : ((strings_TrimLeft.f s0_0 (⟨#[32, 9]⟩ : ByteArray)).bind fun t101 => (some t101)) = some r := h
  clear h
  replace H := Option.bind_eq_some_iff.mp H
  obtain ⟨t101, A20, H⟩ := H
  replace H : (some t101) = some r := H
  have A2 := Aside0.mk A20
  clear A20
  obtain rfl := Option.some.inj H
  obtain ⟨HGz3, hgz3⟩ := HI0.out
  have hcz3_0 := cellS58_0 HGz3
  have hfz3_0 := blk_frozen HGz3 0
  clear HGz3 hgz3
  go_enter Tryd.func46, Tryd.ntmps46
  go_wp2_with (first | ((with_reducible refine gate_callee (f := 25) rfl ?_); refine goesL_ (some 6) rfl rfl Tryd.func25 (by kernel_rfl) rfl #[.string s0_0, .string (⟨#[32, 9]⟩ : ByteArray)] rfl (by (try simp only [List.map_toArray, List.map_cons, List.map_nil]); first | done | rfl | (simp only [List.length_drop, List.length_take]; rfl)) ?_; (with_reducible refine (strings_TrimLeft.calls s0_0 (⟨#[32, 9]⟩ : ByteArray) t101 _ A2.out).mono ?_); rintro e w4 ⟨rfl, hb⟩; refine ⟨_, rfl, ?_⟩; have n0_ := Aside0.mk (IsS58.below (by repeat (first | (with_reducible first | exact HI0.out | apply IsS58.alloc | apply IsS58.drewN | apply IsS58.drew | apply IsS58.set_0) | exact HI0.out)) hb); have n1_ := Aside0.mk (KeepBut.trans (by repeat (first | (with_reducible first | exact HK.out | apply KeepBut.set_ | apply keep_drewN | apply keep_drew | apply keep_alloc) | exact HK.out)) (KeepBut.of_below hb g none) (.inl rfl)); have n2_ := Aside0.mk (below_step (by repeat (first | (with_reducible first | exact HB.out | apply below_alloc | apply pw_below_drewN | apply below_drew1 | refine below_set ?_ (IsS58.ge HI0.out)) | exact HB.out)) hb); clear HI0; clear HK; clear HB; have HI0 := n0_; have HK := n1_; have HB := n2_; clear n0_ n1_ n2_; (try clear hb); (try clear hb2); (try clear hk); (try clear hi); obtain ⟨HGz5, hgz5⟩ := HI0.out; have hcz5_0 := cellS58_0 HGz5; have hfz5_0 := blk_frozen HGz5 0; clear HGz5 hgz5))
  first | go_end0 | ((try simp only [Exit.inBlock, Exit.then]); refine bodyPost_ret (results_none rfl _ _ _) rfl ?_)
  exact ⟨by first | rfl | (simp [errW_none, errW_some, bne_nil_] <;> rfl) | (simp [*, errW_none, errW_some] <;> rfl), by repeat (first | (with_reducible first | exact HI0.out | apply IsS58.alloc | apply IsS58.drewN | apply IsS58.drew | apply IsS58.set_0) | exact HI0.out), by repeat (first | (with_reducible first | exact HB.out | apply below_alloc | apply pw_below_drewN | apply below_drew1 | refine below_set ?_ (IsS58.ge HI0.out)) | exact HB.out), by repeat (first | (with_reducible first | exact HK.out | apply KeepBut.set_ | apply keep_drewN | apply keep_drew | apply keep_alloc) | exact HK.out)⟩

end Go.Proofs.YteonhdfjfjpbjaaDoor.P

/- Px2 -/
namespace Go.Proofs.YteonhdfjfjpbjaaDoor.P
open Go.Proofs.YteonhdfjfjpbjaaDoor.B
open Go.RowKit Go.Proofs.YteonhdfjfjpbjaaDoorW.PrintWords Go.Proofs.YteonhdfjfjpbjaaDoorW.PrintLast Go.Proofs.YteonhdfjfjpbjaaDoorW.PrintMore
attribute [local go_sem] str_leq str_gtr str_geq max2_int min2_int max_two min_two max_three min_three max_four min_four   -- for this text's walks alone
set_option linter.unusedVariables false
set_option linter.unusedSimpArgs false

/-! ### stringslite_HasPrefix: function 80 -/
def stringslite_HasPrefix.f (a0 : ByteArray) (a1 : ByteArray) : Option (Bool) := if (a0.size : Int) ≥ (a1.size : Int) then (if 0 ≤ (a1.size : Int) then (if (a1.size : Int) ≤ (a0.size : Int) then (some ((a0.extract 0 ((a1.size : Int) : Int).toNat).toList == a1.toList)) else (none)) else (none)) else (some false)
set_option maxHeartbeats 8000000 in
set_option maxRecDepth 100000 in
theorem stringslite_HasPrefix.calls (a0 : ByteArray) (a1 : ByteArray) (r : Bool) (w : World) (h : stringslite_HasPrefix.f a0 a1 = some r) :
    Calls Tryd.prog 80 #[.string a0, .string a1] w fun e w' => e = .returned (.bool r) ∧ Drawn0 w w' := by
  have H : (if (a0.size : Int) ≥ (a1.size : Int) then (if 0 ≤ (a1.size : Int) then (if (a1.size : Int) ≤ (a0.size : Int) then (some ((a0.extract 0 ((a1.size : Int) : Int).toNat).toList == a1.toList)) else (none)) else (none)) else (some false)) = some r := h
  clear h
  by_cases c3 : (a0.size : Int) ≥ (a1.size : Int)
  · rw [if_pos c3] at H
    have c3b0 : decide ((a1.size : Int) ≤ (a0.size : Int)) = true := decide_eq_true c3
    have c3b1 : decide (a1.size ≤ a0.size) = true := decide_eq_true (Int.ofNat_le.mp c3)
    clear c3
    by_cases c4 : 0 ≤ (a1.size : Int)
    · rw [if_pos c4] at H
      have c4b0 := eq_true c4
      have c4b1 : decide (0 ≤ (a1.size : Int)) = true := decide_eq_true c4
      clear c4
      by_cases c5 : (a1.size : Int) ≤ (a0.size : Int)
      · rw [if_pos c5] at H
        have c5b0 := eq_true c5
        have c5b1 : decide ((a1.size : Int) ≤ (a0.size : Int)) = true := decide_eq_true c5
        clear c5
        obtain rfl := Option.some.inj H
        go_enter Tryd.func80, Tryd.ntmps80
        go_wp2
        go_ret
        exact ⟨by first | rfl | (simp; done) | (simp [*]; done), by repeat (first | exact Drawn0.refl _ | apply Drawn0.step)⟩
      · rw [if_neg c5] at H
        exact absurd H (by simp)
    · rw [if_neg c4] at H
      exact absurd H (by simp)
  · rw [if_neg c3] at H
    have c3b0 : decide ((a1.size : Int) ≤ (a0.size : Int)) = false := decide_eq_false c3
    have c3b1 : decide (a1.size ≤ a0.size) = false := decide_eq_false (fun h => c3 (Int.ofNat_le.mpr h))
    clear c3
    obtain rfl := Option.some.inj H
    go_enter Tryd.func80, Tryd.ntmps80
    go_wp2
    go_ret
    exact ⟨by first | rfl | (simp; done) | (simp [*]; done), by repeat (first | exact Drawn0.refl _ | apply Drawn0.step)⟩

end Go.Proofs.YteonhdfjfjpbjaaDoor.P

/- Px3 -/
namespace Go.Proofs.YteonhdfjfjpbjaaDoor.P
open Go.Proofs.YteonhdfjfjpbjaaDoor.B
open Go.RowKit Go.Proofs.YteonhdfjfjpbjaaDoorW.PrintWords Go.Proofs.YteonhdfjfjpbjaaDoorW.PrintLast Go.Proofs.YteonhdfjfjpbjaaDoorW.PrintMore
attribute [local go_sem] str_leq str_gtr str_geq max2_int min2_int max_two min_two max_three min_three max_four min_four   -- for this text's walks alone
set_option linter.unusedVariables false
set_option linter.unusedSimpArgs false

/-! ### stringslite_CutPrefix: function 53 -/
def stringslite_CutPrefix.f (a0 : ByteArray) (a1 : ByteArray) : Option (ByteArray × Bool) := (stringslite_HasPrefix.f a0 a1).bind fun t102 => (if t102 = true then (if 0 ≤ (a1.size : Int) then (if (a1.size : Int) ≤ (a0.size : Int) then (some (a0.extract ((a1.size : Int) : Int).toNat a0.size, true)) else (none)) else (none)) else (some (a0, false)))
set_option maxHeartbeats 8000000 in
set_option maxRecDepth 100000 in
theorem stringslite_CutPrefix.calls (a0 : ByteArray) (a1 : ByteArray) (r1 : ByteArray) (r2 : Bool) (w : World) (h : stringslite_CutPrefix.f a0 a1 = some (r1, r2)) :
    Calls Tryd.prog 53 #[.string a0, .string a1] w fun e w' => e = .returned (.tuple #[.string r1, .bool r2]) ∧ Drawn0 w w' := by
  have H : ((stringslite_HasPrefix.f a0 a1).bind fun t102 => (if t102 = true then (if 0 ≤ (a1.size : Int) then (if (a1.size : Int) ≤ (a0.size : Int) then (some (a0.extract ((a1.size : Int) : Int).toNat a0.size, true)) else (none)) else (none)) else (some (a0, false)))) = some (r1, r2) := h
  clear h
  replace H := Option.bind_eq_some_iff.mp H
  obtain ⟨t102, A30, H⟩ := H
  replace H : (if t102 = true then (if 0 ≤ (a1.size : Int) then (if (a1.size : Int) ≤ (a0.size : Int) then (some (a0.extract ((a1.size : Int) : Int).toNat a0.size, true)) else (none)) else (none)) else (some (a0, false))) = some (r1, r2) := H
  have A3 := Aside0.mk A30
  clear A30
  by_cases c4 : t102 = true
  · subst c4
    have H1 : (if 0 ≤ (a1.size : Int) then (if (a1.size : Int) ≤ (a0.size : Int) then (some (a0.extract ((a1.size : Int) : Int).toNat a0.size, true)) else (none)) else (none)) = some (r1, r2) := by rw [if_pos rfl] at H; exact H
    clear H
    have H := H1
    clear H1
    by_cases c5 : 0 ≤ (a1.size : Int)
    · rw [if_pos c5] at H
      have c5b0 := eq_true c5
      have c5b1 : decide (0 ≤ (a1.size : Int)) = true := decide_eq_true c5
      clear c5
      by_cases c6 : (a1.size : Int) ≤ (a0.size : Int)
      · rw [if_pos c6] at H
        have c6b0 := eq_true c6
        have c6b1 : decide ((a1.size : Int) ≤ (a0.size : Int)) = true := decide_eq_true c6
        clear c6
        simp only [Option.some.injEq, Prod.mk.injEq] at H
        obtain ⟨rfl, rfl⟩ := H
        go_enter Tryd.func53, Tryd.ntmps53
        go_wp2_with (first | ((with_reducible refine gate_callee (f := 80) rfl ?_); refine goesL_ (some 8) rfl rfl Tryd.func80 (by kernel_rfl) rfl #[.string a0, .string a1] rfl (by (try simp only [List.map_toArray, List.map_cons, List.map_nil]); first | done | rfl | (simp only [List.length_drop, List.length_take]; rfl)) ?_; (with_reducible refine (stringslite_HasPrefix.calls a0 a1 true _ A3.out).mono ?_); rintro e w' ⟨rfl, ⟨nd, rfl⟩⟩; refine ⟨_, rfl, ?_⟩))
        go_ret2
        exact ⟨by first | rfl | (simp; done) | (simp [*]; done), by repeat (first | exact Drawn0.refl _ | apply Drawn0.step)⟩
      · rw [if_neg c6] at H
        exact absurd H (by simp)
    · rw [if_neg c5] at H
      exact absurd H (by simp)
  · replace c4 := Bool.eq_false_iff.mpr c4
    subst c4
    have H1 : (some (a0, false)) = some (r1, r2) := by rw [if_neg (show ¬ (false = true) by decide)] at H; exact H
    clear H
    have H := H1
    clear H1
    simp only [Option.some.injEq, Prod.mk.injEq] at H
    obtain ⟨rfl, rfl⟩ := H
    go_enter Tryd.func53, Tryd.ntmps53
    go_wp2_with (first | ((with_reducible refine gate_callee (f := 80) rfl ?_); refine goesL_ (some 8) rfl rfl Tryd.func80 (by kernel_rfl) rfl #[.string a0, .string a1] rfl (by (try simp only [List.map_toArray, List.map_cons, List.map_nil]); first | done | rfl | (simp only [List.length_drop, List.length_take]; rfl)) ?_; (with_reducible refine (stringslite_HasPrefix.calls a0 a1 false _ A3.out).mono ?_); rintro e w' ⟨rfl, ⟨nd, rfl⟩⟩; refine ⟨_, rfl, ?_⟩))
    go_ret2
    exact ⟨by first | rfl | (simp; done) | (simp [*]; done), by repeat (first | exact Drawn0.refl _ | apply Drawn0.step)⟩

end Go.Proofs.YteonhdfjfjpbjaaDoor.P

/- Px4 -/
namespace Go.Proofs.YteonhdfjfjpbjaaDoor.P
open Go.Proofs.YteonhdfjfjpbjaaDoor.B
open Go.RowKit Go.Proofs.YteonhdfjfjpbjaaDoorW.PrintWords Go.Proofs.YteonhdfjfjpbjaaDoorW.PrintLast Go.Proofs.YteonhdfjfjpbjaaDoorW.PrintMore
attribute [local go_sem] str_leq str_gtr str_geq max2_int min2_int max_two min_two max_three min_three max_four min_four   -- for this text's walks alone
set_option linter.unusedVariables false
set_option linter.unusedSimpArgs false

/-! ### strings_CutPrefix: function 28 -/
def strings_CutPrefix.f (a0 : ByteArray) (a1 : ByteArray) : Option (ByteArray × Bool) := (stringslite_CutPrefix.f a0 a1).bind fun bt103 => (some (bt103.1, bt103.2))
set_option maxHeartbeats 8000000 in
set_option maxRecDepth 100000 in
theorem strings_CutPrefix.calls (a0 : ByteArray) (a1 : ByteArray) (r1 : ByteArray) (r2 : Bool) (w : World) (h : strings_CutPrefix.f a0 a1 = some (r1, r2)) :
    Calls Tryd.prog 28 #[.string a0, .string a1] w fun e w' => e = .returned (.tuple #[.string r1, .bool r2]) ∧ Drawn0 w w' := by
  have H : ((stringslite_CutPrefix.f a0 a1).bind fun bt103 => (some (bt103.1, bt103.2))) = some (r1, r2) := h
  clear h
  replace H := Option.bind_eq_some_iff.mp H
  obtain ⟨⟨t103, t104⟩, A30, H⟩ := H
  replace H : (some (t103, t104)) = some (r1, r2) := H
  have A3 := Aside0.mk A30
  clear A30
  simp only [Option.some.injEq, Prod.mk.injEq] at H
  obtain ⟨rfl, rfl⟩ := H
  go_enter Tryd.func28, Tryd.ntmps28
  go_wp2_with (first | ((with_reducible refine gate_callee (f := 53) rfl ?_); refine goesL_ (some 8) rfl rfl Tryd.func53 (by kernel_rfl) rfl #[.string a0, .string a1] rfl (by (try simp only [List.map_toArray, List.map_cons, List.map_nil]); first | done | rfl | (simp only [List.length_drop, List.length_take]; rfl)) ?_; (with_reducible refine (stringslite_CutPrefix.calls a0 a1 t103 t104 _ A3.out).mono ?_); rintro e w' ⟨rfl, ⟨nd, rfl⟩⟩; refine ⟨_, rfl, ?_⟩))
  go_ret2
  exact ⟨by first | rfl | (simp; done) | (simp [*]; done), by repeat (first | exact Drawn0.refl _ | apply Drawn0.step)⟩

end Go.Proofs.YteonhdfjfjpbjaaDoor.P

/- Px5 -/
namespace Go.Proofs.YteonhdfjfjpbjaaDoor.P
open Go.Proofs.YteonhdfjfjpbjaaDoor.B
open Go.RowKit Go.Proofs.YteonhdfjfjpbjaaDoorW.PrintWords Go.Proofs.YteonhdfjfjpbjaaDoorW.PrintLast Go.Proofs.YteonhdfjfjpbjaaDoorW.PrintMore
attribute [local go_sem] str_leq str_gtr str_geq max2_int min2_int max_two min_two max_three min_three max_four min_four   -- for this text's walks alone
set_option linter.unusedVariables false
set_option linter.unusedSimpArgs false

/-! ### media_Text_Take: function 47 -/
def media_Text_Take.f (s0_0 : ByteArray) (a1 : ByteArray) : Option (Bool × ByteArray) := (strings_CutPrefix.f s0_0 a1).bind fun bt105 => (some (bt105.2, bt105.1))
set_option maxHeartbeats 8000000 in
set_option maxRecDepth 100000 in
theorem media_Text_Take.calls (g : Nat) (s0_0 : ByteArray) (a1 : ByteArray) (r1 : Bool) (r2 : ByteArray) (w0 w : World) (hI : IsS58 w0 w g s0_0) (hB : Below w0.heap.size w0 w) (h : media_Text_Take.f s0_0 a1 = some (r1, r2)) :
    Calls Tryd.prog 47 #[.pointer (some ⟨g, 0, none⟩), .string a1] w fun e w' => e = .returned (.bool r1) ∧ IsS58 w0 w' g r2 ∧ Below w0.heap.size w0 w' ∧ KeepBut w w' g none := by
  have HI0 := Aside0.mk hI
  have HK := Aside0.mk (KeepBut.refl w g none)
  have HL := Aside0.mk hB.size
  clear hI
  have HW0 := Aside0.mk hB.size
  have HB := Aside0.mk hB
  clear hB
  have H : ((strings_CutPrefix.f s0_0 a1).bind fun bt105 => (some (bt105.2, bt105.1))) = some (r1, r2) := h
  clear h
  replace H := Option.bind_eq_some_iff.mp H
  obtain ⟨⟨t105, t106⟩, A30, H⟩ := H
  replace H : (some (t106, t105)) = some (r1, r2) := H
  have A3 := Aside0.mk A30
  clear A30
  simp only [Option.some.injEq, Prod.mk.injEq] at H
  obtain ⟨rfl, rfl⟩ := H
  obtain ⟨HGz4, hgz4⟩ := HI0.out
  have hcz4_0 := cellS58_0 HGz4
  have hfz4_0 := blk_frozen HGz4 0
  clear HGz4 hgz4
  go_enter Tryd.func47, Tryd.ntmps47
  go_wp2_with (first | ((with_reducible refine gate_callee (f := 28) rfl ?_); refine goesL_ (some 12) rfl rfl Tryd.func28 (by kernel_rfl) rfl #[.string s0_0, .string a1] rfl (by (try simp only [List.map_toArray, List.map_cons, List.map_nil]); first | done | rfl | (simp only [List.length_drop, List.length_take]; rfl)) ?_; (with_reducible refine (strings_CutPrefix.calls s0_0 a1 t105 t106 _ A3.out).mono ?_); rintro e w' ⟨rfl, ⟨nd, rfl⟩⟩; refine ⟨_, rfl, ?_⟩))
  go_ret
  exact ⟨by first | rfl | (simp [errW_none, errW_some, bne_nil_] <;> rfl) | (simp [*, errW_none, errW_some] <;> rfl), by repeat (first | (with_reducible first | exact HI0.out | apply IsS58.alloc | apply IsS58.drewN | apply IsS58.drew | apply IsS58.set_0) | exact HI0.out), by repeat (first | (with_reducible first | exact HB.out | apply below_alloc | apply pw_below_drewN | apply below_drew1 | refine below_set ?_ (IsS58.ge HI0.out)) | exact HB.out), by repeat (first | (with_reducible first | exact HK.out | apply KeepBut.set_ | apply keep_drewN | apply keep_drew | apply keep_alloc) | exact HK.out)⟩

end Go.Proofs.YteonhdfjfjpbjaaDoor.P

/- Ocut -/
namespace Go.Proofs.YteonhdfjfjpbjaaDoor.O
open Go.RowKit Go.Proofs.YteonhdfjfjpbjaaDoorW.PrintWords Go.Proofs.YteonhdfjfjpbjaaDoorW.PrintLast Go.Proofs.YteonhdfjfjpbjaaDoorW.PrintMore
set_option linter.unusedVariables false
set_option linter.unusedSimpArgs false

theorem below_drewN_ (w : World) (n : Nat) : Below w.heap.size w (w.drewN n) := ⟨rfl, rfl, rfl, Nat.le_refl _, fun _ _ => rfl⟩
def cutF (s sep : ByteArray) : ByteArray × ByteArray × Bool := (⟨(Lib.cut s.data.toList sep.data.toList).1.toArray⟩, ⟨(Lib.cut s.data.toList sep.data.toList).2.1.toArray⟩, (Lib.cut s.data.toList sep.data.toList).2.2)
def strings_Cut.f (a0 a1 : ByteArray) : Option (ByteArray × ByteArray × Bool) := if a0.size < 4294967281 then some (cutF a0 a1) else none
theorem strings_Cut.calls (a0 a1 : ByteArray) (r1 r2 : ByteArray) (r3 : Bool) (w : World) (hG : Glob w) (h : strings_Cut.f a0 a1 = some (r1, r2, r3)) :
    Calls Tryd.prog 11 #[.string a0, .string a1] w fun e w' => e = .returned (.tuple #[.string r1, .string r2, .bool r3]) ∧ Below w.heap.size w w' := by
  unfold strings_Cut.f at h
  split at h
  case isFalse => exact absurd h (by simp)
  rename_i hb
  have h' := Option.some.inj h
  unfold cutF at h'
  obtain ⟨e1, e23⟩ := Prod.mk.inj h'
  obtain ⟨e2, e3⟩ := Prod.mk.inj e23
  subst e1; subst e2; subst e3
  obtain ⟨m, hm⟩ := hG.cell
  refine (Tryd.strings_Cut a0 a1 m w hb hm).mono ?_
  rintro e w' ⟨rfl, n, rfl⟩
  exact ⟨rfl, below_drewN_ _ _⟩
def strings_IndexByte.f (a0 : ByteArray) (a1 : Int) : Option Int := some (Lib.indexByte a0.data.toList a1.toNat.toUInt8)
theorem strings_IndexByte.calls (a0 : ByteArray) (a1 : Int) (r : Int) (w : World) (h : strings_IndexByte.f a0 a1 = some r) :
    Calls Tryd.prog 72 #[.string a0, .int .u8 a1] w fun e w' => e = .returned (.int .i64 r) ∧ Drawn0 w w' := by
  obtain rfl := Option.some.inj h
  refine (Tryd.strings_IndexByte a0 a1 w).mono ?_
  rintro e w' ⟨rfl, rfl⟩
  exact ⟨rfl, Drawn0.refl _⟩
end Go.Proofs.YteonhdfjfjpbjaaDoor.O

/- Px6 -/
namespace Go.Proofs.YteonhdfjfjpbjaaDoor.P
open Go.Proofs.YteonhdfjfjpbjaaDoor.B
open Go.RowKit Go.Proofs.YteonhdfjfjpbjaaDoorW.PrintWords Go.Proofs.YteonhdfjfjpbjaaDoorW.PrintLast Go.Proofs.YteonhdfjfjpbjaaDoorW.PrintMore
attribute [local go_sem] str_leq str_gtr str_geq max2_int min2_int max_two min_two max_three min_three max_four min_four   -- for this text's walks alone
set_option linter.unusedVariables false
set_option linter.unusedSimpArgs false

open Go.Proofs.YteonhdfjfjpbjaaDoor.O
/-! ### media_Text_Token: function 48 -/
def media_Text_Token.l0 : Nat → Int → ByteArray → Option (ByteArray × ByteArray)
  | 0, _, _ => none
  | k + 1, x3, x1000 => if x3 < (x1000.size : Int) then (if 0 ≤ x3 then ((strings_IndexByte.f (⟨#[48, 49, 50, 51, 52, 53, 54, 55, 56, 57, 65, 66, 67, 68, 69, 70, 71, 72, 73, 74, 75, 76, 77, 78, 79, 80, 81, 82, 83, 84, 85, 86, 87, 88, 89, 90, 97, 98, 99, 100, 101, 102, 103, 104, 105, 106, 107, 108, 109, 110, 111, 112, 113, 114, 115, 116, 117, 118, 119, 120, 121, 122, 33, 35, 36, 37, 38, 39, 42, 43, 45, 46, 94, 95, 96, 124, 126]⟩ : ByteArray) (bt x1000 x3)).bind fun t107 => (if t107 ≥ 0 then (media_Text_Token.l0 k (wrap64 (x3 + 1)) x1000) else (if x3 ≤ (x1000.size : Int) then (some (x1000.extract 0 (x3 : Int).toNat, x1000.extract (x3 : Int).toNat x1000.size)) else (none)))) else (none)) else (if 0 ≤ x3 then (if x3 ≤ (x1000.size : Int) then (some (x1000.extract 0 (x3 : Int).toNat, x1000.extract (x3 : Int).toNat x1000.size)) else (none)) else (none))
def media_Text_Token.f (k : Nat) (s0_0 : ByteArray) : Option (ByteArray × ByteArray) := media_Text_Token.l0 k 0 s0_0
theorem media_Text_Token.mono_l : ∀ k, (∀ y0 y1, LeO (media_Text_Token.l0 k y0 y1) (media_Text_Token.l0 (k + 1) y0 y1))
  | 0 => fun _ _ r h => by simp [media_Text_Token.l0] at h
  | k + 1 => by
    have ih0 := media_Text_Token.mono_l k
    · intro y0 y1
      unfold media_Text_Token.l0
      repeat' first
      | (with_reducible exact ih0 _ _)
      | (with_reducible exact LeO.refl _)
      | (with_reducible exact LeO.none _)
      | (with_reducible refine LeO.ite ?_ ?_)
      | (with_reducible refine LeO.bind ?_ (fun _ => ?_))
      | exact ih0 _ _
      | exact LeO.none _
      | refine LeO.ite ?_ ?_
      | refine LeO.bind ?_ (fun _ => ?_)
theorem media_Text_Token.mono : ∀ a0 k, LeO (media_Text_Token.f k a0) (media_Text_Token.f (k + 1) a0) := by
  intro a0 k
  have ih0 := media_Text_Token.mono_l k
  unfold media_Text_Token.f
  repeat' first
      | (with_reducible exact ih0 _ _)
      | (with_reducible exact LeO.refl _)
      | (with_reducible exact LeO.none _)
      | (with_reducible refine LeO.ite ?_ ?_)
      | (with_reducible refine LeO.bind ?_ (fun _ => ?_))
      | exact ih0 _ _
      | exact LeO.none _
      | refine LeO.ite ?_ ?_
      | refine LeO.bind ?_ (fun _ => ?_)
set_option maxHeartbeats 8000000 in
set_option maxRecDepth 100000 in
theorem media_Text_Token.calls (k : Nat) (g : Nat) (s0_0 : ByteArray) (r1 : ByteArray) (r2 : ByteArray) (w0 w : World) (hI : IsS58 w0 w g s0_0) (hB : Below w0.heap.size w0 w) (h : media_Text_Token.f k s0_0 = some (r1, r2)) :
    Calls Tryd.prog 48 #[.pointer (some ⟨g, 0, none⟩)] w fun e w' => e = .returned (.string r1) ∧ IsS58 w0 w' g r2 ∧ Below w0.heap.size w0 w' ∧ KeepBut w w' g none := by
  have HI0 := Aside0.mk hI
  have HK := Aside0.mk (KeepBut.refl w g none)
  have HL := Aside0.mk hB.size
  clear hI
  have HW0 := Aside0.mk hB.size
  have HB := Aside0.mk hB
  clear hB
  have H : (media_Text_Token.l0 k 0 s0_0) = some (r1, r2) := h
  clear h
  have H' := Aside0.mk H
  clear H
  go_enter Tryd.func48, Tryd.ntmps48
  go_wp2
  first | go_loopg [3] k (fun kq v3 w' => ∃ (x3_1 : Int), v3 = .int .i64 x3_1 ∧ Aside0 (media_Text_Token.l0 kq x3_1 s0_0 = some (r1, r2)) ∧ Aside0 (kq ≤ k) ∧ Aside0 (IsS58 w0 w' g s0_0) ∧ Aside0 (KeepBut w w' g none) ∧ Aside0 (Below w0.heap.size w0 w')) | (go_simp; go_loopg [3] k (fun kq v3 w' => ∃ (x3_1 : Int), v3 = .int .i64 x3_1 ∧ Aside0 (media_Text_Token.l0 kq x3_1 s0_0 = some (r1, r2)) ∧ Aside0 (kq ≤ k) ∧ Aside0 (IsS58 w0 w' g s0_0) ∧ Aside0 (KeepBut w w' g none) ∧ Aside0 (Below w0.heap.size w0 w')))
  case atStart => exact ⟨(0), (by first | rfl | (simp; done) | (simp [*]; done)), H', ⟨Nat.le_refl _⟩, ⟨by repeat (first | (with_reducible first | exact HI0.out | apply IsS58.alloc | apply IsS58.drewN | apply IsS58.drew | apply IsS58.set_0) | exact HI0.out)⟩, ⟨by repeat (first | (with_reducible first | exact HK.out | apply KeepBut.set_ | apply keep_drewN | apply keep_drew | apply keep_alloc) | exact HK.out)⟩, ⟨by repeat (first | (with_reducible first | exact HB.out | apply below_alloc | apply pw_below_drewN | apply below_drew1 | refine below_set ?_ (IsS58.ge HI0.out)) | exact HB.out)⟩⟩
  case round =>
    clear H'
    obtain ⟨x3_1, rfl, HA, HK1, HI0, HK, HB⟩ := hrel
    cases gk with
    | zero => exact absurd HA.out (by simp [media_Text_Token.l0])
    | succ k1 =>
      have H := HA.out
      clear HA
      simp only [media_Text_Token.l0] at H
      by_cases c2 : x3_1 < (s0_0.size : Int)
      · rw [if_pos c2] at H
        have c2b0 : decide (x3_1 < (s0_0.size : Int)) = true := decide_eq_true c2
        clear c2
        by_cases c3 : 0 ≤ x3_1
        · rw [if_pos c3] at H
          have c3b0 : decide (0 ≤ x3_1) = true := decide_eq_true c3
          clear c3
          replace H := Option.bind_eq_some_iff.mp H
          obtain ⟨t107, A50, H⟩ := H
          replace H : (if t107 ≥ 0 then (media_Text_Token.l0 k1 (wrap64 (x3_1 + 1)) s0_0) else (if x3_1 ≤ (s0_0.size : Int) then (some (s0_0.extract 0 (x3_1 : Int).toNat, s0_0.extract (x3_1 : Int).toNat s0_0.size)) else (none))) = some (r1, r2) := H
          have A5 := Aside0.mk A50
          clear A50
          by_cases c6 : t107 ≥ 0
          · rw [if_pos c6] at H
            have c6b0 : decide (0 ≤ t107) = true := decide_eq_true c6
            clear c6
            have H' := Aside0.mk H
            clear H
            obtain ⟨HGz7, hgz7⟩ := HI0.out
            have hcz7_0 := cellS58_0 HGz7
            have hfz7_0 := blk_frozen HGz7 0
            clear HGz7 hgz7
            have p4 : 0 ≤ (x3_1 : Int) := of_decide_eq_true (by first | (with_reducible assumption) | assumption)
            have q4 : x3_1 < (s0_0.size : Int) := of_decide_eq_true (by first | (with_reducible assumption) | assumption)
            have hx4 := bt_at s0_0 x3_1
            replace p4 := eq_true p4
            replace q4 := eq_true q4
            go_wp2_with (first | (go_at_call 72; (with_reducible refine (strings_IndexByte.calls (⟨#[48, 49, 50, 51, 52, 53, 54, 55, 56, 57, 65, 66, 67, 68, 69, 70, 71, 72, 73, 74, 75, 76, 77, 78, 79, 80, 81, 82, 83, 84, 85, 86, 87, 88, 89, 90, 97, 98, 99, 100, 101, 102, 103, 104, 105, 106, 107, 108, 109, 110, 111, 112, 113, 114, 115, 116, 117, 118, 119, 120, 121, 122, 33, 35, 36, 37, 38, 39, 42, 43, 45, 46, 94, 95, 96, 124, 126]⟩ : ByteArray) (bt s0_0 x3_1) t107 _ A5.out).mono ?_); rintro e w' ⟨rfl, ⟨nd, rfl⟩⟩))
            go_roundg k1
            case measure => have := HK1.out; omega
            case rel => exact ⟨(wrap64 (x3_1 + 1)), (by first | rfl | (simp; done) | (simp [*]; done)), H', ⟨by have := HK1.out; omega⟩, ⟨by repeat (first | (with_reducible first | exact HI0.out | apply IsS58.alloc | apply IsS58.drewN | apply IsS58.drew | apply IsS58.set_0) | exact HI0.out)⟩, ⟨by repeat (first | (with_reducible first | exact HK.out | apply KeepBut.set_ | apply keep_drewN | apply keep_drew | apply keep_alloc) | exact HK.out)⟩, ⟨by repeat (first | (with_reducible first | exact HB.out | apply below_alloc | apply pw_below_drewN | apply below_drew1 | refine below_set ?_ (IsS58.ge HI0.out)) | exact HB.out)⟩⟩
          · rw [if_neg c6] at H
            have c6b0 : decide (0 ≤ t107) = false := decide_eq_false c6
            clear c6
            have c8b0 := eq_true (of_decide_eq_true (by first | (with_reducible assumption) | assumption) : 0 ≤ x3_1)
            by_cases c9 : x3_1 ≤ (s0_0.size : Int)
            · rw [if_pos c9] at H
              have c9b0 := eq_true c9
              have c9b1 : decide (x3_1 ≤ (s0_0.size : Int)) = true := decide_eq_true c9
              clear c9
              have c10b0 := eq_true (of_decide_eq_true (by first | (with_reducible assumption) | assumption) : 0 ≤ x3_1)
              have c11b0 := eq_true (of_decide_eq_true (by first | (with_reducible assumption) | assumption) : x3_1 ≤ (s0_0.size : Int))
              simp only [Option.some.injEq, Prod.mk.injEq] at H
              obtain ⟨rfl, rfl⟩ := H
              obtain ⟨HGz12, hgz12⟩ := HI0.out
              have hcz12_0 := cellS58_0 HGz12
              have hfz12_0 := blk_frozen HGz12 0
              clear HGz12 hgz12
              have p4 : 0 ≤ (x3_1 : Int) := of_decide_eq_true (by first | (with_reducible assumption) | assumption)
              have q4 : x3_1 < (s0_0.size : Int) := of_decide_eq_true (by first | (with_reducible assumption) | assumption)
              have hx4 := bt_at s0_0 x3_1
              replace p4 := eq_true p4
              replace q4 := eq_true q4
              go_wp2_with (first | (go_at_call 72; (with_reducible refine (strings_IndexByte.calls (⟨#[48, 49, 50, 51, 52, 53, 54, 55, 56, 57, 65, 66, 67, 68, 69, 70, 71, 72, 73, 74, 75, 76, 77, 78, 79, 80, 81, 82, 83, 84, 85, 86, 87, 88, 89, 90, 97, 98, 99, 100, 101, 102, 103, 104, 105, 106, 107, 108, 109, 110, 111, 112, 113, 114, 115, 116, 117, 118, 119, 120, 121, 122, 33, 35, 36, 37, 38, 39, 42, 43, 45, 46, 94, 95, 96, 124, 126]⟩ : ByteArray) (bt s0_0 x3_1) t107 _ A5.out).mono ?_); rintro e w' ⟨rfl, ⟨nd, rfl⟩⟩; (try (rw [drewN_self wr]; generalize hq_ : World.drewN wr _ = wr; have n0_ : Aside0 (IsS58 w0 wr g s0_0) := ⟨by rw [← hq_]; exact (by repeat (first | (with_reducible first | exact HI0.out | apply IsS58.alloc | apply IsS58.drewN | apply IsS58.drew | apply IsS58.set_0) | exact HI0.out))⟩; have n1_ : Aside0 (KeepBut w wr g none) := ⟨by rw [← hq_]; exact (by repeat (first | (with_reducible first | exact HK.out | apply KeepBut.set_ | apply keep_drewN | apply keep_drew | apply keep_alloc) | exact HK.out))⟩; have n2_ : Aside0 (Below w0.heap.size w0 wr) := ⟨by rw [← hq_]; exact (by repeat (first | (with_reducible first | exact HB.out | apply below_alloc | apply pw_below_drewN | apply below_drew1 | refine below_set ?_ (IsS58.ge HI0.out)) | exact HB.out))⟩; (try replace hcz12_0 := cell_undrew hq_ hcz12_0); (try replace hfz12_0 := froz_undrew hq_ hfz12_0); (try replace hcz12_1 := cell_undrew hq_ hcz12_1); (try replace hfz12_1 := froz_undrew hq_ hfz12_1); (try replace hcz12_2 := cell_undrew hq_ hcz12_2); (try replace hfz12_2 := froz_undrew hq_ hfz12_2); (try replace hcz12_3 := cell_undrew hq_ hcz12_3); (try replace hfz12_3 := froz_undrew hq_ hfz12_3); clear HI0 HK HB hq_; have HI0 := n0_; have HK := n1_; have HB := n2_; clear n0_ n1_ n2_))))
              go_ret
              exact ⟨by first | rfl | (simp [errW_none, errW_some, bne_nil_] <;> rfl) | (simp [*, errW_none, errW_some] <;> rfl), by repeat (first | (with_reducible first | exact HI0.out | apply IsS58.alloc | apply IsS58.drewN | apply IsS58.drew | apply IsS58.set_0) | exact HI0.out), by repeat (first | (with_reducible first | exact HB.out | apply below_alloc | apply pw_below_drewN | apply below_drew1 | refine below_set ?_ (IsS58.ge HI0.out)) | exact HB.out), by repeat (first | (with_reducible first | exact HK.out | apply KeepBut.set_ | apply keep_drewN | apply keep_drew | apply keep_alloc) | exact HK.out)⟩
            · rw [if_neg c9] at H
              exact absurd H (by simp)
        · rw [if_neg c3] at H
          exact absurd H (by simp)
      · rw [if_neg c2] at H
        have c2b0 : decide (x3_1 < (s0_0.size : Int)) = false := decide_eq_false c2
        clear c2
        by_cases c13 : 0 ≤ x3_1
        · rw [if_pos c13] at H
          have c13b0 := eq_true c13
          have c13b1 : decide (0 ≤ x3_1) = true := decide_eq_true c13
          clear c13
          by_cases c14 : x3_1 ≤ (s0_0.size : Int)
          · rw [if_pos c14] at H
            have c14b0 := eq_true c14
            have c14b1 : decide (x3_1 ≤ (s0_0.size : Int)) = true := decide_eq_true c14
            clear c14
            have c15b0 := eq_true (of_decide_eq_true (by first | (with_reducible assumption) | assumption) : 0 ≤ x3_1)
            have c16b0 := eq_true (of_decide_eq_true (by first | (with_reducible assumption) | assumption) : x3_1 ≤ (s0_0.size : Int))
            simp only [Option.some.injEq, Prod.mk.injEq] at H
            obtain ⟨rfl, rfl⟩ := H
            obtain ⟨HGz17, hgz17⟩ := HI0.out
            have hcz17_0 := cellS58_0 HGz17
            have hfz17_0 := blk_frozen HGz17 0
            clear HGz17 hgz17
            go_wp2
            go_ret
            exact ⟨by first | rfl | (simp [errW_none, errW_some, bne_nil_] <;> rfl) | (simp [*, errW_none, errW_some] <;> rfl), by repeat (first | (with_reducible first | exact HI0.out | apply IsS58.alloc | apply IsS58.drewN | apply IsS58.drew | apply IsS58.set_0) | exact HI0.out), by repeat (first | (with_reducible first | exact HB.out | apply below_alloc | apply pw_below_drewN | apply below_drew1 | refine below_set ?_ (IsS58.ge HI0.out)) | exact HB.out), by repeat (first | (with_reducible first | exact HK.out | apply KeepBut.set_ | apply keep_drewN | apply keep_drew | apply keep_alloc) | exact HK.out)⟩
          · rw [if_neg c14] at H
            exact absurd H (by simp)
        · rw [if_neg c13] at H
          exact absurd H (by simp)

end Go.Proofs.YteonhdfjfjpbjaaDoor.P

/- Omed -/
namespace Go.Proofs.YteonhdfjfjpbjaaDoor.O
open Go.RowKit Go.Proofs.YteonhdfjfjpbjaaDoorW.PrintWords Go.Proofs.YteonhdfjfjpbjaaDoorW.PrintLast Go.Proofs.YteonhdfjfjpbjaaDoorW.PrintMore
set_option linter.unusedVariables false
set_option linter.unusedSimpArgs false

def lowI (c : Int) : Int := if 65 ≤ c ∧ c ≤ 90 then c + 32 else c
theorem low_or (c : Int) (h : 65 ≤ c ∧ c ≤ 90) : Go.bits .or .u8 c 32 = c + 32 := by
  obtain ⟨a, rfl⟩ := Int.eq_ofNat_of_zero_le (show 0 ≤ c by omega)
  have key : ∀ a : Fin 26, Go.bits .or .u8 (((a.val + 65 : Nat)) : Int) 32 = ((a.val + 65 : Nat) : Int) + 32 := by decide +kernel
  have := key ⟨a - 65, by omega⟩
  rwa [show a - 65 + 65 = a by omega] at this
def smallAt (s : ByteArray) (k : Nat) : List Int := (List.range s.size).map fun (j : Nat) => if j < k then lowI (bt s j) else bt s j
theorem smallAt_len (s : ByteArray) (k : Nat) : (smallAt s k).length = s.size := by simp [smallAt]
theorem smallAt_get (s : ByteArray) (k j : Nat) (h : j < s.size) : (smallAt s k).getD j 0 = if j < k then lowI (bt s j) else bt s j := by
  simp [smallAt, List.getD_eq_getElem?_getD, h]
def media_Small.f (a0 : ByteArray) : Option ByteArray := if a0.size ≤ 9223372036854775807 then some (strOfNums (smallAt a0 a0.size)) else none
set_option maxHeartbeats 1000000 in
theorem media_Small.calls (a0 : ByteArray) (r : ByteArray) (w : World) (h : media_Small.f a0 = some r) :
    Calls Tryd.prog 50 #[.string a0] w fun e w' => e = .returned (.string r) ∧ Below w.heap.size w w' := by
  unfold media_Small.f at h
  split at h
  case isFalse => exact absurd h (by simp)
  rename_i hsz
  obtain rfl := Option.some.inj h
  clear h
  have hconv := Lib.run_convert_string_bytes (P := Tryd.prog) w 9 33 5 a0 Tryd.underlying9 Tryd.underlying33 Tryd.underlying5
  have hb := Lib.hid (below_bytes w 5 a0)
  have hcell := Lib.hid (fun j hj => Lib.bytesWorld_cell w 5 a0 j hj)
  have hfz : Hid (∀ j : Nat, j < a0.size → (Lib.bytesWorld w 5 a0).frozen? ⟨w.heap.size, j, none⟩ = false) := Lib.hid (fun j hj => by
    have hs : a0.size ≤ (Lib.bytesCells w 5 a0).size := by
      unfold Lib.bytesCells
      rw [Array.size_append, Array.size_map]
      exact Nat.le_add_right _ _
    unfold World.frozen?
    rw [Lib.bytesWorld_at_new]
    simp
    omega)
  have hlt0 : Hid (w.heap.size < (Lib.bytesWorld w 5 a0).heap.size) := Lib.hid (by rw [Lib.bytesWorld_size]; omega)
  generalize Lib.bytesWorld w 5 a0 = w1 at *
  generalize grownCap w a0.size 0 5 = cap at *
  go_enter Tryd.func50, Tryd.ntmps50
  go_wp2
  go_loopw [10] (fun i wr => ∃ k : Nat, k ≤ a0.size ∧ i = .int .i64 k ∧ Hid (∀ j : Nat, j < a0.size → wr.cell? ⟨w.heap.size, j, none⟩ = some (.int .u8 ((smallAt a0 k).getD j 0)) ∧ wr.frozen? ⟨w.heap.size, j, none⟩ = false) ∧ Hid (Below w.heap.size w wr)) (fun i _ => a0.size - (intOf i).toNat)
  case atStart =>
    refine ⟨0, Nat.zero_le _, rfl, Lib.hid (fun j hj => ⟨?_, hfz.out j hj⟩), hb⟩
    rw [hcell.out j hj, bt_getD a0 j hj, smallAt_get a0 0 j hj, if_neg (by omega)]
  case round =>
    obtain ⟨k, hk, rfl, hc, hB⟩ := hrel
    by_cases hlt : k < a0.size
    · have hck : wr.cell? ⟨w.heap.size, k, none⟩ = some (.int .u8 (bt a0 k)) := by rw [(hc.out k hlt).1, smallAt_get a0 k k hlt, if_neg (by omega)]
      have hfk := (hc.out k hlt).2
      obtain ⟨q1, q2⟩ := bt_range a0 k
      have hrest : Hid (∀ j : Nat, j < a0.size → j ≠ k → (smallAt a0 (k + 1)).getD j 0 = (smallAt a0 k).getD j 0) := Lib.hid (fun j hj hne => by
        rw [smallAt_get _ _ _ hj, smallAt_get _ _ _ hj]
        by_cases hjk : j < k
        · rw [if_pos hjk, if_pos (by omega)]
        · rw [if_neg hjk, if_neg (by omega)])
      have hself : Hid ((smallAt a0 (k + 1)).getD k 0 = lowI (bt a0 k)) := Lib.hid (by rw [smallAt_get _ _ _ hlt, if_pos (by omega)])
      generalize bt a0 k = c at *
      by_cases hup : 65 ≤ c ∧ c ≤ 90
      · have ho := low_or c hup
        have hl : Hid (lowI c = c + 32) := Lib.hid (by unfold lowI; rw [if_pos hup])
        obtain ⟨u1, u2⟩ := hup
        go_wp2
        go_roundw
        case rel =>
          refine ⟨k + 1, by omega, by go_num, Lib.hid (fun j hj => ?_), Lib.hid (hB.out.setCell (Nat.le_refl _) _)⟩
          by_cases hjk : j = k
          · subst hjk
            rw [hself.out, hl.out]
            exact ⟨World.cell?_setCell_same _ _ _ hck, by rw [World.frozen?_setCell]; exact hfk⟩
          · refine ⟨?_, by rw [World.frozen?_setCell]; exact (hc.out j hj).2⟩
            have hne : (⟨w.heap.size, (k : Nat), none⟩ : Addr) ≠ ⟨w.heap.size, j, none⟩ := fun e => hjk (congrArg Addr.off e).symm
            exact ((World.cell?_setCell_other _ _ _ _ hne).trans (hc.out j hj).1).trans (by rw [hrest.out j hj hjk])
        case measure => simp [intOf]; omega
      · have hl : Hid (lowI c = c) := Lib.hid (by unfold lowI; rw [if_neg hup])
        have hd : Hid (∀ j : Nat, j < a0.size → wr.cell? ⟨w.heap.size, j, none⟩ = some (.int .u8 ((smallAt a0 (k + 1)).getD j 0)) ∧ wr.frozen? ⟨w.heap.size, j, none⟩ = false) := Lib.hid (fun j hj => by
          by_cases hjk : j = k
          · subst hjk
            rw [hself.out, hl.out]
            exact ⟨hck, hfk⟩
          · rw [hrest.out j hj hjk]
            exact hc.out j hj)
        by_cases u1 : 65 ≤ c
        · have u2 : ¬ c ≤ 90 := fun h => hup ⟨u1, h⟩
          clear hup
          go_wp2
          go_roundw
          case rel => exact ⟨k + 1, by omega, by go_num, hd, hB⟩
          case measure => simp [intOf]; omega
        · clear hup
          go_wp2
          go_roundw
          case rel => exact ⟨k + 1, by omega, by go_num, hd, hB⟩
          case measure => simp [intOf]; omega
    · obtain rfl : k = a0.size := by omega
      have hconv2 : (convert 33 9 (.slice (some ⟨w.heap.size, 0, none⟩) a0.size cap)).run Tryd.prog wr = .ok (.string (strOfNums (smallAt a0 a0.size))) wr := string_of_reads Tryd.underlying33 Tryd.underlying5 Tryd.underlying9 ⟨smallAt_len _ _, hsz, fun _ => ⟨_, rfl, fun j hj => by
        have := (hc.out j hj).1
        by_cases h0 : j = 0
        · subst h0
          exact this
        · simp only [Addr.add, h0, if_false, Nat.zero_add]
          exact this⟩⟩
      obtain ⟨out, hout⟩ : ∃ x, x = strOfNums (smallAt a0 a0.size) := ⟨_, rfl⟩
      rw [← hout] at hconv2
      have hout' := Lib.hid hout
      clear hout
      go_wp2
      go_ret
      exact ⟨ret_str hout'.out, hB.out⟩
end Go.Proofs.YteonhdfjfjpbjaaDoor.O

/- Oval -/
namespace Go.Proofs.YteonhdfjfjpbjaaDoor.O
open Go.RowKit Go.Proofs.YteonhdfjfjpbjaaDoorW.PrintWords Go.Proofs.YteonhdfjfjpbjaaDoorW.PrintLast Go.Proofs.YteonhdfjfjpbjaaDoorW.PrintMore
set_option linter.unusedVariables false
set_option linter.unusedSimpArgs false

def badI (c : Int) : Bool := decide (c < 32) && !(c == 9) || c == 127
def trimB (s : ByteArray) : ByteArray := ⟨(Lib.trimS s.data.toList [32, 9]).toArray⟩
def field_value.f (a0 : ByteArray) : Option Bool := if a0.size ≤ 9223372036854775807 then some (if (List.range a0.size).any (fun j => badI (bt a0 j)) = true then false else (trimB a0).toList == a0.toList) else none
theorem any_false (a0 : ByteArray) (h : ∀ j, j < a0.size → badI (bt a0 j) = false) : (List.range a0.size).any (fun j => badI (bt a0 j)) = false := by
  rw [List.any_eq_false]
  intro j hj
  rw [h j (List.mem_range.1 hj)]
  decide
theorem any_true (a0 : ByteArray) (k : Nat) (hk : k < a0.size) (h : badI (bt a0 k) = true) : (List.range a0.size).any (fun j => badI (bt a0 j)) = true := by
  rw [List.any_eq_true]
  exact ⟨k, List.mem_range.2 hk, h⟩
set_option maxHeartbeats 1000000 in
theorem field_value.calls (a0 : ByteArray) (r : Bool) (w : World) (h : field_value.f a0 = some r) :
    Calls Tryd.prog 58 #[.string a0] w fun e w' => e = .returned (.bool r) ∧ Below w.heap.size w w' := by
  unfold field_value.f at h
  split at h
  case isFalse => exact absurd h (by simp)
  rename_i hsz
  have hr := Lib.hid (Option.some.inj h)
  clear h
  have hconv := Lib.run_convert_string_bytes (P := Tryd.prog) w 9 33 5 a0 Tryd.underlying9 Tryd.underlying33 Tryd.underlying5
  have hb := Lib.hid (below_bytes w 5 a0)
  have hcell := Lib.hid (fun j hj => Lib.bytesWorld_cell w 5 a0 j hj)
  generalize Lib.bytesWorld w 5 a0 = w1 at *
  generalize grownCap w a0.size 0 5 = cap at *
  go_enter Tryd.func58, Tryd.ntmps58
  go_wp2
  go_loop [8] (fun i => ∃ k : Nat, k ≤ a0.size ∧ i = .int .i64 k ∧ Hid (∀ j : Nat, j < k → badI (bt a0 j) = false)) (fun i => a0.size - (intOf i).toNat)
  case atStart => exact ⟨0, Nat.zero_le _, rfl, Lib.hid (fun j hj => absurd hj (by omega))⟩
  case round =>
    obtain ⟨k, hk, rfl, hgood⟩ := hrel
    by_cases hlt : k < a0.size
    · have hc : w1.cell? ⟨w.heap.size, k, none⟩ = some (.int .u8 (bt a0 k)) := by rw [hcell.out k hlt, bt_getD a0 k hlt]
      obtain ⟨q1, q2⟩ := bt_range a0 k
      have hbad : Hid (badI (bt a0 k) = true → r = false) := Lib.hid (fun hx => by
        have := hr.out
        rw [if_pos (any_true a0 k hlt hx)] at this
        exact this.symm)
      have hok : Hid (badI (bt a0 k) = false → ∀ j : Nat, j < k + 1 → badI (bt a0 j) = false) := Lib.hid (fun hx j hj => by
        by_cases hjk : j = k
        · subst hjk; exact hx
        · exact hgood.out j (by omega))
      generalize bt a0 k = c at *
      by_cases h1 : c < 32
      · by_cases h2 : c = 9
        · subst h2
          have hk1 := Lib.hid (hok.out (by decide))
          clear hok hbad
          go_wp2
          go_round
          case rel => exact ⟨k + 1, by omega, by go_num, hk1⟩
          case measure => simp [intOf]; omega
        · obtain rfl := hbad.out (by unfold badI; simp [h1, h2])
          go_wp2
          go_ret
          exact ⟨rfl, hb.out⟩
      · by_cases h3 : c = 127
        · subst h3
          obtain rfl := hbad.out (by decide)
          go_wp2
          go_ret
          exact ⟨rfl, hb.out⟩
        · have hx : badI c = false := by unfold badI; simp [h1, h3]
          have hk1 := Lib.hid (hok.out hx)
          have h1b : decide (c < 32) = false := decide_eq_false h1
          have h3b : decide (c = 127) = false := decide_eq_false h3
          have h3c : (c == 127) = false := by simpa using h3
          clear hx hok hbad
          go_wp2
          go_round
          case rel => exact ⟨k + 1, by omega, by go_num, hk1⟩
          case measure => simp [intOf]; omega
    · obtain rfl : k = a0.size := by omega
      have hT : strings_Trim.f a0 (⟨#[32, 9]⟩ : ByteArray) = some (trimB a0) := by
        unfold strings_Trim.f
        rw [if_pos ⟨hsz, by decide, by decide⟩]
        rfl
      have HT := Lib.hid (strings_Trim.calls a0 _ _ w1 hT)
      have hr2 : Hid (((trimB a0).toList == a0.toList) = r) := Lib.hid (by
        have := hr.out
        rw [if_neg (by rw [any_false a0 hgood.out]; decide)] at this
        exact this)
      generalize trimB a0 = t at *
      clear hT
      go_wp2_with (go_at_call 56; refine HT.out.mono ?_; rintro e w' ⟨rfl, hb2⟩)
      go_ret
      exact ⟨ret_bool hr2.out, below_step hb.out hb2⟩
end Go.Proofs.YteonhdfjfjpbjaaDoor.O

/- Obld -/
namespace Go.Proofs.YteonhdfjfjpbjaaDoor.O
open Go.RowKit Go.Proofs.YteonhdfjfjpbjaaDoorW.PrintWords Go.Proofs.YteonhdfjfjpbjaaDoorW.PrintLast Go.Proofs.YteonhdfjfjpbjaaDoorW.PrintMore Go.Proofs.YteonhdfjfjpbjaaDoor.P Go.Proofs.YteonhdfjfjpbjaaDoor.B
set_option linter.unusedVariables false
set_option linter.unusedSimpArgs false

theorem cells_len (s : ByteArray) : (Lib.byteCells s.data.toList).length = s.size := by rw [Lib.byteCells_length, data_length]
theorem cells_append (s t : ByteArray) : Lib.byteCells s.data.toList ++ Lib.strCells t = Lib.byteCells (s ++ t).data.toList := by
  simp [Lib.byteCells, Lib.strCells, ByteArray.data_append]
def Builder_WriteString.f (s0 a1 : ByteArray) : Option (Int × Option Int × ByteArray) := if s0.size + a1.size ≤ 140737488355328 then some ((a1.size : Int), none, s0 ++ a1) else none
theorem Builder_WriteString.calls (g : Nat) (s0_0 : ByteArray) (a1 : ByteArray) (r1 : Int) (r2 : Option Int) (r3 : ByteArray) (w0 w : World) (hI : IsS35 w0 w g s0_0) (hB : Below w0.heap.size w0 w) (h : Builder_WriteString.f s0_0 a1 = some (r1, r2, r3)) :
    Calls Tryd.prog 15 #[.pointer (some ⟨g, 0, none⟩), .string a1] w fun e w' => e = .returned (.tuple #[.int .i64 r1, errW r2]) ∧ IsS35 w0 w' g r3 ∧ Below w0.heap.size w0 w' ∧ KeepB 5 w w' g := by
  unfold Builder_WriteString.f at h
  split at h
  case isFalse => exact absurd h (by simp)
  rename_i hb
  obtain ⟨rfl, rfl, rfl⟩ : (a1.size : Int) = r1 ∧ none = r2 ∧ s0_0 ++ a1 = r3 := by simpa using h
  refine (Tryd.Builder_WriteString_k w0.heap.size g _ a1 w hI (by rw [cells_len]; exact hb) hB.size).mono ?_
  rintro e w' ⟨rfl, h1, h2, h3⟩
  rw [cells_append] at h1
  exact ⟨rfl, .inr h1, hB.trans h2, ⟨h3⟩⟩
def Builder_String.f (s0 : ByteArray) : Option (ByteArray × ByteArray) := some (s0, s0)
theorem Builder_String.calls (g : Nat) (s0_0 : ByteArray) (r1 : ByteArray) (r2 : ByteArray) (w0 w : World) (hI : IsS35 w0 w g s0_0) (hB : Below w0.heap.size w0 w) (h : Builder_String.f s0_0 = some (r1, r2)) :
    Calls Tryd.prog 17 #[.pointer (some ⟨g, 0, none⟩)] w fun e w' => e = .returned (.string r1) ∧ IsS35 w0 w' g r2 ∧ Below w0.heap.size w0 w' ∧ KeepB 5 w w' g := by
  obtain ⟨rfl, rfl⟩ : s0_0 = r1 ∧ s0_0 = r2 := by simpa [Builder_String.f] using h
  refine (Tryd.Builder_String_any_k w0.heap.size g s0_0.data.toList w hI hB.size).mono ?_
  rintro e w' ⟨rfl, h1, h2, h3⟩
  exact ⟨rfl, h1, hB.trans h2, ⟨h3⟩⟩
end Go.Proofs.YteonhdfjfjpbjaaDoor.O

/- Oquo -/
namespace Go.Proofs.YteonhdfjfjpbjaaDoor.O
open Go.RowKit Go.Proofs.YteonhdfjfjpbjaaDoorW.PrintWords Go.Proofs.YteonhdfjfjpbjaaDoorW.PrintLast Go.Proofs.YteonhdfjfjpbjaaDoorW.PrintMore Go.Proofs.YteonhdfjfjpbjaaDoor.P Go.Proofs.YteonhdfjfjpbjaaDoor.B
set_option linter.unusedVariables false
set_option linter.unusedSimpArgs false

def oneB (c : Int) : ByteArray := ⟨#[UInt8.ofNat c.toNat]⟩
theorem byte_cell (s : ByteArray) (c : Int) (h0 : 0 ≤ c) (h1 : c ≤ 255) : Lib.byteCells s.data.toList ++ [.int .u8 c] = Lib.byteCells (s ++ oneB c).data.toList := by
  have e : ((UInt8.ofNat c.toNat).toNat : Int) = c := by rw [UInt8.toNat_ofNat']; omega
  have e2 : (oneB c).data.toList = [UInt8.ofNat c.toNat] := rfl
  rw [show (s ++ oneB c).data.toList = s.data.toList ++ (oneB c).data.toList from by simp, e2]
  unfold Lib.byteCells
  rw [List.map_append, List.map_cons, List.map_nil, e]
theorem badI_low {c : Int} (h1 : c < 32) (h2 : ¬ c = 9) : badI c = true := by unfold badI; simp [h1, h2]
theorem badI_no {c : Int} (h1 : ¬ c < 32) (h3 : ¬ c = 127) : badI c = false := by unfold badI; simp [h1, h3]
theorem oneB_size (s : ByteArray) (c : Int) : (s ++ oneB c).size = s.size + 1 := by rw [ByteArray.size_append]; rfl
theorem Builder_WriteByte.calls (g : Nat) (s : ByteArray) (c : Int) (w0 w : World) (h0 : 0 ≤ c) (h1 : c ≤ 255) (hI : IsS35 w0 w g s) (hB : Below w0.heap.size w0 w) (hs : s.size + 1 ≤ 140737488355328) :
    Calls Tryd.prog 93 #[.pointer (some ⟨g, 0, none⟩), .int .u8 c] w fun e w' => e = .returned .nilIface ∧ IsS35 w0 w' g (s ++ oneB c) ∧ Below w0.heap.size w0 w' := by
  refine (Tryd.Builder_WriteByte_k w0.heap.size g _ c w hI (by rw [cells_len]; exact hs) hB.size).mono ?_
  rintro e w' ⟨rfl, h2, h3, h4⟩
  rw [byte_cell s c h0 h1] at h2
  exact ⟨rfl, .inr h2, hB.trans h3⟩
def qtF (s : ByteArray) : Nat → Nat → ByteArray → Option (ByteArray × Nat)
  | 0, _, _ => none
  | f + 1, k, acc => if k < s.size then (if bt s k = 34 then some (acc, k + 1) else if bt s k = 92 then (if k + 1 < s.size then (if badI (bt s ((k + 1 : Nat) : Int)) = true then none else qtF s f (k + 2) (acc ++ oneB (bt s ((k + 1 : Nat) : Int)))) else none) else if badI (bt s k) = true then none else qtF s f (k + 1) (acc ++ oneB (bt s k))) else none
def qtR (s : ByteArray) : Option (ByteArray × Nat) → ByteArray × Bool × ByteArray
  | some (t, k) => (t, true, s.extract k s.size)
  | none => (⟨#[]⟩, false, s)
def Text_Quoted.f (s0 : ByteArray) : Option (ByteArray × Bool × ByteArray) := if s0.size ≤ 140737488355327 then some (qtR s0 (qtF s0 (s0.size + 1) 0 ⟨#[]⟩)) else none
/-- What the callee leaves of the caller's memory. -/
theorem quo_end {w0 w W : World} {g : Nat} {s0 : ByteArray} (hI : IsS58 w0 w g s0) (hB : Below w0.heap.size w0 w) (hb : Below w.heap.size w W) : IsS58 w0 W g s0 ∧ Below w0.heap.size w0 W ∧ KeepBut w W g none :=
  ⟨hI.below hb, below_step hB hb, KeepBut.of_below hb g none⟩
set_option maxHeartbeats 2000000 in
theorem Text_Quoted.calls (g : Nat) (s0_0 : ByteArray) (r1 : ByteArray) (r2 : Bool) (r3 : ByteArray) (w0 w : World) (hI : IsS58 w0 w g s0_0) (hB : Below w0.heap.size w0 w) (h : Text_Quoted.f s0_0 = some (r1, r2, r3)) :
    Calls Tryd.prog 73 #[.pointer (some ⟨g, 0, none⟩)] w fun e w' => e = .returned (.tuple #[.string r1, .bool r2]) ∧ IsS58 w0 w' g r3 ∧ Below w0.heap.size w0 w' ∧ KeepBut w w' g none := by
  unfold Text_Quoted.f at h
  split at h
  case isFalse => exact absurd h (by simp)
  rename_i hsz
  have hres := Lib.hid (Option.some.inj h)
  clear h
  have hglt := hI.lt
  have hHI := Lib.hid hI
  have hHB := Lib.hid hB
  have hcell0 : Hid (w.cell? ⟨g, 0, none⟩ = some (.string s0_0) ∧ w.frozen? ⟨g, 0, none⟩ = false) := Lib.hid ⟨(blk_cell hI.1 0).trans rfl, blk_frozen hI.1 0⟩
  have hnew : Hid (IsS35 w (w.alloc (.cells #[.pointer none, .slice none 0 0] 35)) w.heap.size ⟨#[]⟩) := Lib.hid (IsS35.new (by simpa using heap_alloc_new w _) (Nat.le_refl _))
  have hnewB : Hid (Below w.heap.size w (w.alloc (.cells #[.pointer none, .slice none 0 0] 35))) := Lib.hid (below_alloc (Below.refl _ _) _)
  clear hI hB
  go_enter Tryd.func73, Tryd.ntmps73
  go_wp2
  go_loopw [5] (fun i wr => ∃ (k f : Nat) (acc : ByteArray), k ≤ s0_0.size ∧ i = .int .i64 k ∧ Hid (s0_0.size + 1 ≤ f + k ∧ acc.size ≤ k ∧ qtR s0_0 (qtF s0_0 f k acc) = (r1, r2, r3)) ∧ Hid (IsS35 w wr w.heap.size acc) ∧ Hid (Below w.heap.size w wr)) (fun i _ => s0_0.size - (intOf i).toNat)
  case atStart => exact ⟨0, s0_0.size + 1, ⟨#[]⟩, Nat.zero_le _, rfl, Lib.hid ⟨by omega, Nat.le_refl _, hres.out⟩, hnew, hnewB⟩
  case round =>
    obtain ⟨k, f, acc, hk, rfl, hq, hS, hW⟩ := hrel
    have hc0 : wr.cell? ⟨g, 0, none⟩ = some (.string s0_0) := (hW.out.cell hglt).trans hcell0.out.1
    have hf0 : wr.frozen? ⟨g, 0, none⟩ = false := (hW.out.frozen hglt).trans hcell0.out.2
    obtain ⟨f, rfl⟩ : ∃ f', f = f' + 1 := ⟨f - 1, by have := hq.out.1; omega⟩
    by_cases hlt : k < s0_0.size
    · have hq2 : Hid ((s0_0.size + 1 ≤ f + 1 + k ∧ acc.size ≤ k) ∧ qtR s0_0 (if bt s0_0 k = 34 then some (acc, k + 1) else if bt s0_0 k = 92 then (if k + 1 < s0_0.size then (if badI (bt s0_0 ((k + 1 : Nat) : Int)) = true then none else qtF s0_0 f (k + 2) (acc ++ oneB (bt s0_0 ((k + 1 : Nat) : Int)))) else none) else if badI (bt s0_0 k) = true then none else qtF s0_0 f (k + 1) (acc ++ oneB (bt s0_0 k))) = (r1, r2, r3)) := Lib.hid ⟨⟨hq.out.1, hq.out.2.1⟩, by
        have := hq.out.2.2
        rw [qtF, if_pos hlt] at this
        exact this⟩
      clear hq
      obtain ⟨q1, q2⟩ := bt_range s0_0 k
      have hidx : ∀ h : k < s0_0.size, ((s0_0[k]'h).toNat : Int) = bt s0_0 k := fun h => by simp [bt, h]
      obtain ⟨⟨hfk, hacc⟩, hr⟩ := hq2.out
      clear hq2
      by_cases c34 : bt s0_0 k = 34
      · rw [if_pos c34] at hr
        obtain ⟨e1, e2, e3⟩ : acc = r1 ∧ true = r2 ∧ s0_0.extract (k + 1) s0_0.size = r3 := by simpa [qtR] using hr
        clear hr
        have hS2 : Hid (IsS35 w (wr.setCell ⟨g, 0, none⟩ (.string (s0_0.extract (k + 1) s0_0.size))) w.heap.size acc) := Lib.hid (hS.out.farB (by show w.heap.size ≠ g; omega) ⟨_, _, (hHI.out.below hW.out).1⟩ (by decide) _)
        have HC0 := Tryd.Builder_String_any_k w.heap.size w.heap.size acc.data.toList _ hS2.out (by simpa [World.setCell] using hW.out.size)
        rw [show (⟨acc.data.toList.toArray⟩ : ByteArray) = acc from by cases acc; simp] at HC0
        have HC := Lib.hid HC0
        clear HC0
        have hk1 : (k : Int) + 1 ≤ (s0_0.size : Int) := by omega
        have hw1 : wrap64 ((k : Int) + 1) = ((k + 1 : Nat) : Int) := by unfold wrap64; omega
        clear hS2
        have he1 := Lib.hid e1; have he2 := Lib.hid e2; have he3 := Lib.hid e3
        clear e1 e2 e3
        rw [c34] at hidx
        go_wp2_with (go_at_call 17; refine HC.out.mono ?_; rintro e w2 ⟨rfl, _, hb2, _⟩; have hb2 := Lib.hid hb2)
        go_ret2
        have hs1 : IsS58 w0 (wr.setCell ⟨g, 0, none⟩ (.string (s0_0.extract (k + 1) s0_0.size))) g (s0_0.extract (k + 1) s0_0.size) := (hHI.out.below hW.out).set_0 _
        refine ⟨?_, ?_, ?_, ?_⟩
        · show Ending.returned (.tuple #[.string acc, .bool true]) = _
          rw [← he1.out, ← he2.out]
        · rw [← he3.out]
          exact ⟨(hb2.out.block g hglt).trans hs1.1, hs1.2⟩
        · exact (below_set (below_step hHB.out hW.out) hHI.out.ge).trans (hb2.out.mono hHB.out.size)
        · exact ⟨Nat.le_trans (by simpa [World.setCell] using hW.out.size) hb2.out.size, fun i hi hg _ => (hb2.out.block i hi).trans ((Below.heap_setCell _ _ _ _ hg).trans (hW.out.block i hi))⟩
      · rw [if_neg c34] at hr
        by_cases c92 : bt s0_0 k = 92
        · rw [if_pos c92] at hr
          have hw1 : wrap64 ((k : Int) + 1) = ((k + 1 : Nat) : Int) := by unfold wrap64; omega
          rw [c92] at hidx
          by_cases hk1 : k + 1 < s0_0.size
          · rw [if_pos hk1] at hr
            have hidx2 : ∀ h : k + 1 < s0_0.size, ((s0_0[k + 1]'h).toNat : Int) = bt s0_0 ((k + 1 : Nat) : Int) := fun h => by unfold bt; rw [dif_pos (by omega)]; rfl
            obtain ⟨p1, p2⟩ := bt_range s0_0 ((k + 1 : Nat) : Int)
            generalize hd : bt s0_0 ((k + 1 : Nat) : Int) = d at *
            clear hd
            have hne : ¬ ((k + 1 : Nat) : Int) = (s0_0.size : Int) := by omega
            by_cases h1 : d < 32
            · by_cases h2 : d = 9
              · have hb0 : badI d = false := by rw [h2]; decide
                subst h2
                rw [if_neg (by rw [hb0]; decide)] at hr
                have hr2 := Lib.hid hr
                have HC := Lib.hid (Builder_WriteByte.calls w.heap.size acc 9 w wr (by omega) (by omega) hS.out hW.out (by omega))
                clear hr hb0
                go_wp2_with (go_at_call 93; refine HC.out.mono ?_; rintro e w2 ⟨rfl, hi, hb⟩; have hi := Lib.hid hi; have hb := Lib.hid hb)
                go_roundw
                case rel => exact ⟨k + 2, f, acc ++ oneB 9, by omega, by go_num, Lib.hid ⟨by omega, by rw [oneB_size]; omega, hr2.out⟩, hi, hb⟩
                case measure => simp [intOf]; omega
              · have hb1 : badI d = true := badI_low h1 h2
                rw [if_pos hb1] at hr
                obtain ⟨e1, e2, e3⟩ : (⟨#[]⟩ : ByteArray) = r1 ∧ false = r2 ∧ s0_0 = r3 := by simpa [qtR] using hr
                subst e1; subst e2; subst e3
                clear hr hb1
                go_wp2
                go_ret2
                exact ⟨rfl, quo_end hHI.out hHB.out hW.out⟩
            · by_cases h3 : d = 127
              · have hb1 : badI d = true := by rw [h3]; decide
                subst h3
                rw [if_pos hb1] at hr
                obtain ⟨e1, e2, e3⟩ : (⟨#[]⟩ : ByteArray) = r1 ∧ false = r2 ∧ s0_0 = r3 := by simpa [qtR] using hr
                subst e1; subst e2; subst e3
                clear hr hb1
                go_wp2
                go_ret2
                exact ⟨rfl, quo_end hHI.out hHB.out hW.out⟩
              · have hb0 : badI d = false := badI_no h1 h3
                rw [if_neg (by rw [hb0]; decide)] at hr
                have hr2 := Lib.hid hr
                have HC := Lib.hid (Builder_WriteByte.calls w.heap.size acc d w wr (by omega) (by omega) hS.out hW.out (by omega))
                clear hr hb0
                go_wp2_with (go_at_call 93; refine HC.out.mono ?_; rintro e w2 ⟨rfl, hi, hb⟩; have hi := Lib.hid hi; have hb := Lib.hid hb)
                go_roundw
                case rel => exact ⟨k + 2, f, acc ++ oneB d, by omega, by go_num, Lib.hid ⟨by omega, by rw [oneB_size]; omega, hr2.out⟩, hi, hb⟩
                case measure => simp [intOf]; omega

          · rw [if_neg hk1] at hr
            obtain ⟨e1, e2, e3⟩ : (⟨#[]⟩ : ByteArray) = r1 ∧ false = r2 ∧ s0_0 = r3 := by simpa [qtR] using hr
            subst e1; subst e2; subst e3
            have hne : ((k + 1 : Nat) : Int) = (s0_0.size : Int) := by omega
            clear hr
            go_wp2
            go_ret2
            exact ⟨rfl, quo_end hHI.out hHB.out hW.out⟩
        · rw [if_neg c92] at hr
          generalize hd : bt s0_0 k = d at *
          clear hd
          by_cases h1 : d < 32
          · by_cases h2 : d = 9
            · have hb0 : badI d = false := by rw [h2]; decide
              subst h2
              rw [if_neg (by rw [hb0]; decide)] at hr
              have hr2 := Lib.hid hr
              have HC := Lib.hid (Builder_WriteByte.calls w.heap.size acc 9 w wr (by omega) (by omega) hS.out hW.out (by omega))
              clear hr hb0
              go_wp2_with (go_at_call 93; refine HC.out.mono ?_; rintro e w2 ⟨rfl, hi, hb⟩; have hi := Lib.hid hi; have hb := Lib.hid hb)
              go_roundw
              case rel => exact ⟨k + 1, f, acc ++ oneB 9, by omega, by go_num, Lib.hid ⟨by omega, by rw [oneB_size]; omega, hr2.out⟩, hi, hb⟩
              case measure => simp [intOf]; omega
            · have hb1 : badI d = true := badI_low h1 h2
              rw [if_pos hb1] at hr
              obtain ⟨e1, e2, e3⟩ : (⟨#[]⟩ : ByteArray) = r1 ∧ false = r2 ∧ s0_0 = r3 := by simpa [qtR] using hr
              subst e1; subst e2; subst e3
              clear hr hb1
              go_wp2
              go_ret2
              exact ⟨rfl, quo_end hHI.out hHB.out hW.out⟩
          · by_cases h3 : d = 127
            · have hb1 : badI d = true := by rw [h3]; decide
              subst h3
              rw [if_pos hb1] at hr
              obtain ⟨e1, e2, e3⟩ : (⟨#[]⟩ : ByteArray) = r1 ∧ false = r2 ∧ s0_0 = r3 := by simpa [qtR] using hr
              subst e1; subst e2; subst e3
              clear hr hb1
              go_wp2
              go_ret2
              exact ⟨rfl, quo_end hHI.out hHB.out hW.out⟩
            · have hb0 : badI d = false := badI_no h1 h3
              rw [if_neg (by rw [hb0]; decide)] at hr
              have hr2 := Lib.hid hr
              have HC := Lib.hid (Builder_WriteByte.calls w.heap.size acc d w wr (by omega) (by omega) hS.out hW.out (by omega))
              clear hr hb0
              go_wp2_with (go_at_call 93; refine HC.out.mono ?_; rintro e w2 ⟨rfl, hi, hb⟩; have hi := Lib.hid hi; have hb := Lib.hid hb)
              go_roundw
              case rel => exact ⟨k + 1, f, acc ++ oneB d, by omega, by go_num, Lib.hid ⟨by omega, by rw [oneB_size]; omega, hr2.out⟩, hi, hb⟩
              case measure => simp [intOf]; omega

    · obtain rfl : k = s0_0.size := by omega
      have hr := hq.out.2.2
      rw [qtF, if_neg (by omega)] at hr
      obtain ⟨e1, e2, e3⟩ : (⟨#[]⟩ : ByteArray) = r1 ∧ false = r2 ∧ s0_0 = r3 := by simpa [qtR] using hr
      subst e1; subst e2; subst e3
      clear hr hq
      go_wp2
      go_ret2
      exact ⟨rfl, quo_end hHI.out hHB.out hW.out⟩
end Go.Proofs.YteonhdfjfjpbjaaDoor.O

/- Px7 -/
namespace Go.Proofs.YteonhdfjfjpbjaaDoor.P
open Go.Proofs.YteonhdfjfjpbjaaDoor.B
open Go.RowKit Go.Proofs.YteonhdfjfjpbjaaDoorW.PrintWords Go.Proofs.YteonhdfjfjpbjaaDoorW.PrintLast Go.Proofs.YteonhdfjfjpbjaaDoorW.PrintMore
attribute [local go_sem] str_leq str_gtr str_geq max2_int min2_int max_two min_two max_three min_three max_four min_four   -- for this text's walks alone
set_option linter.unusedVariables false
set_option linter.unusedSimpArgs false

open Go.Proofs.YteonhdfjfjpbjaaDoor.O
/-! ### media_Text_Value: function 49 -/
def media_Text_Value.f (k : Nat) (s0_0 : ByteArray) : Option (ByteArray × Bool × ByteArray) := (media_Text_Take.f s0_0 (⟨#[34]⟩ : ByteArray)).bind fun bt108 => (if bt108.1 = true then ((Text_Quoted.f bt108.2).bind fun bt110 => (some (bt110.1, bt110.2.1, bt110.2.2))) else ((media_Text_Token.f k bt108.2).bind fun bt113 => (some (bt113.1, (bt113.1.toList != ([] : List UInt8)), bt113.2))))
theorem media_Text_Value.mono : ∀ a0 k, LeO (media_Text_Value.f k a0) (media_Text_Value.f (k + 1) a0) := by
  intro a0 k
  unfold media_Text_Value.f
  repeat' first
      | (with_reducible exact media_Text_Token.mono _ _)
      | (with_reducible exact LeO.refl _)
      | (with_reducible exact LeO.none _)
      | (with_reducible refine LeO.ite ?_ ?_)
      | (with_reducible refine LeO.bind ?_ (fun _ => ?_))
      | exact media_Text_Token.mono _ _
      | exact LeO.none _
      | refine LeO.ite ?_ ?_
      | refine LeO.bind ?_ (fun _ => ?_)
set_option maxHeartbeats 8000000 in
set_option maxRecDepth 100000 in
theorem media_Text_Value.calls (k : Nat) (g : Nat) (s0_0 : ByteArray) (r1 : ByteArray) (r2 : Bool) (r3 : ByteArray) (w0 w : World) (hI : IsS58 w0 w g s0_0) (hB : Below w0.heap.size w0 w) (h : media_Text_Value.f k s0_0 = some (r1, r2, r3)) :
    Calls Tryd.prog 49 #[.pointer (some ⟨g, 0, none⟩)] w fun e w' => e = .returned (.tuple #[.string r1, .bool r2]) ∧ IsS58 w0 w' g r3 ∧ Below w0.heap.size w0 w' ∧ KeepBut w w' g none := by
  have HI0 := Aside0.mk hI
  have HK := Aside0.mk (KeepBut.refl w g none)
  have HL := Aside0.mk hB.size
  clear hI
  have HW0 := Aside0.mk hB.size
  have HB := Aside0.mk hB
  clear hB
  have H : ((media_Text_Take.f s0_0 (⟨#[34]⟩ : ByteArray)).bind fun bt108 => (if bt108.1 = true then ((Text_Quoted.f bt108.2).bind fun bt110 => (some (bt110.1, bt110.2.1, bt110.2.2))) else ((media_Text_Token.f k bt108.2).bind fun bt113 => (some (bt113.1, (bt113.1.toList != ([] : List UInt8)), bt113.2))))) = some (r1, r2, r3) := h
  clear h
  replace H := Option.bind_eq_some_iff.mp H
  obtain ⟨⟨t108, t109⟩, A20, H⟩ := H
  replace H : (if t108 = true then ((Text_Quoted.f t109).bind fun bt110 => (some (bt110.1, bt110.2.1, bt110.2.2))) else ((media_Text_Token.f k t109).bind fun bt113 => (some (bt113.1, (bt113.1.toList != ([] : List UInt8)), bt113.2)))) = some (r1, r2, r3) := H
  have A2 := Aside0.mk A20
  clear A20
  by_cases c3 : t108 = true
  · subst c3
    have H1 : ((Text_Quoted.f t109).bind fun bt110 => (some (bt110.1, bt110.2.1, bt110.2.2))) = some (r1, r2, r3) := by rw [if_pos rfl] at H; exact H
    clear H
    have H := H1
    clear H1
    replace H := Option.bind_eq_some_iff.mp H
    obtain ⟨⟨t110, t111, t112⟩, A40, H⟩ := H
    replace H : (some (t110, t111, t112)) = some (r1, r2, r3) := H
    have A4 := Aside0.mk A40
    clear A40
    simp only [Option.some.injEq, Prod.mk.injEq] at H
    obtain ⟨rfl, rfl, rfl⟩ := H
    go_enter Tryd.func49, Tryd.ntmps49
    go_wp2_with (first | ((with_reducible refine gate_callee (f := 47) rfl ?_); refine goesL_ (some 6) rfl rfl Tryd.func47 (by kernel_rfl) rfl #[.pointer (some ⟨g, 0, none⟩), .string (⟨#[34]⟩ : ByteArray)] rfl (by (try simp only [List.map_toArray, List.map_cons, List.map_nil]); first | done | rfl | (simp only [List.length_drop, List.length_take]; rfl)) ?_; (with_reducible refine (media_Text_Take.calls g s0_0 (⟨#[34]⟩ : ByteArray) true t109 w0 _ ?side1 ?side2 A2.out).mono ?_); (case side1 => repeat (first | (with_reducible first | exact HI0.out | apply IsS58.alloc | apply IsS58.drewN | apply IsS58.drew | apply IsS58.set_0) | exact HI0.out)); (case side2 => repeat (first | (with_reducible first | exact HB.out | apply below_alloc | apply pw_below_drewN | apply below_drew1 | refine below_set ?_ (IsS58.ge HI0.out)) | exact HB.out)); rintro e w5 ⟨rfl, hi, hb, hk⟩; refine ⟨_, rfl, ?_⟩; have n0_ := Aside0.mk (KeepBut.trans (by repeat (first | (with_reducible first | exact HK.out | apply KeepBut.set_ | apply keep_drewN | apply keep_drew | apply keep_alloc) | exact HK.out)) hk (.inl rfl)); have n1_ := Aside0.mk (hb); have n2_ := Aside0.mk (hi); clear HK; clear HB; clear HI0; have HK := n0_; have HB := n1_; have HI0 := n2_; clear n0_ n1_ n2_; (try clear hb); (try clear hb2); (try clear hk); (try clear hi)) | ((with_reducible refine gate_callee (f := 73) rfl ?_); refine goesL_ (some 8) rfl rfl Tryd.func73 (by kernel_rfl) rfl #[.pointer (some ⟨g, 0, none⟩)] rfl (by (try simp only [List.map_toArray, List.map_cons, List.map_nil]); first | done | rfl | (simp only [List.length_drop, List.length_take]; rfl)) ?_; (with_reducible refine (Text_Quoted.calls g t109 t110 t111 t112 w0 _ ?side1 ?side2 A4.out).mono ?_); (case side1 => repeat (first | (with_reducible first | exact HI0.out | apply IsS58.alloc | apply IsS58.drewN | apply IsS58.drew | apply IsS58.set_0) | exact HI0.out)); (case side2 => repeat (first | (with_reducible first | exact HB.out | apply below_alloc | apply pw_below_drewN | apply below_drew1 | refine below_set ?_ (IsS58.ge HI0.out)) | exact HB.out)); rintro e w6 ⟨rfl, hi, hb, hk⟩; refine ⟨_, rfl, ?_⟩; have n0_ := Aside0.mk (KeepBut.trans (by repeat (first | (with_reducible first | exact HK.out | apply KeepBut.set_ | apply keep_drewN | apply keep_drew | apply keep_alloc) | exact HK.out)) hk (.inl rfl)); have n1_ := Aside0.mk (hb); have n2_ := Aside0.mk (hi); clear HK; clear HB; clear HI0; have HK := n0_; have HB := n1_; have HI0 := n2_; clear n0_ n1_ n2_; (try clear hb); (try clear hb2); (try clear hk); (try clear hi)))
    go_ret2
    exact ⟨by first | rfl | (simp [errW_none, errW_some, bne_nil_] <;> rfl) | (simp [*, errW_none, errW_some] <;> rfl), by repeat (first | (with_reducible first | exact HI0.out | apply IsS58.alloc | apply IsS58.drewN | apply IsS58.drew | apply IsS58.set_0) | exact HI0.out), by repeat (first | (with_reducible first | exact HB.out | apply below_alloc | apply pw_below_drewN | apply below_drew1 | refine below_set ?_ (IsS58.ge HI0.out)) | exact HB.out), by repeat (first | (with_reducible first | exact HK.out | apply KeepBut.set_ | apply keep_drewN | apply keep_drew | apply keep_alloc) | exact HK.out)⟩
  · replace c3 := Bool.eq_false_iff.mpr c3
    subst c3
    have H1 : ((media_Text_Token.f k t109).bind fun bt113 => (some (bt113.1, (bt113.1.toList != ([] : List UInt8)), bt113.2))) = some (r1, r2, r3) := by rw [if_neg (show ¬ (false = true) by decide)] at H; exact H
    clear H
    have H := H1
    clear H1
    replace H := Option.bind_eq_some_iff.mp H
    obtain ⟨⟨t113, t114⟩, A70, H⟩ := H
    replace H : (some (t113, (t113.toList != ([] : List UInt8)), t114)) = some (r1, r2, r3) := H
    have A7 := Aside0.mk A70
    clear A70
    simp only [Option.some.injEq, Prod.mk.injEq] at H
    obtain ⟨rfl, rfl, rfl⟩ := H
    go_enter Tryd.func49, Tryd.ntmps49
    go_wp2_with (first | ((with_reducible refine gate_callee (f := 47) rfl ?_); refine goesL_ (some 6) rfl rfl Tryd.func47 (by kernel_rfl) rfl #[.pointer (some ⟨g, 0, none⟩), .string (⟨#[34]⟩ : ByteArray)] rfl (by (try simp only [List.map_toArray, List.map_cons, List.map_nil]); first | done | rfl | (simp only [List.length_drop, List.length_take]; rfl)) ?_; (with_reducible refine (media_Text_Take.calls g s0_0 (⟨#[34]⟩ : ByteArray) false t109 w0 _ ?side1 ?side2 A2.out).mono ?_); (case side1 => repeat (first | (with_reducible first | exact HI0.out | apply IsS58.alloc | apply IsS58.drewN | apply IsS58.drew | apply IsS58.set_0) | exact HI0.out)); (case side2 => repeat (first | (with_reducible first | exact HB.out | apply below_alloc | apply pw_below_drewN | apply below_drew1 | refine below_set ?_ (IsS58.ge HI0.out)) | exact HB.out)); rintro e w8 ⟨rfl, hi, hb, hk⟩; refine ⟨_, rfl, ?_⟩; have n0_ := Aside0.mk (KeepBut.trans (by repeat (first | (with_reducible first | exact HK.out | apply KeepBut.set_ | apply keep_drewN | apply keep_drew | apply keep_alloc) | exact HK.out)) hk (.inl rfl)); have n1_ := Aside0.mk (hb); have n2_ := Aside0.mk (hi); clear HK; clear HB; clear HI0; have HK := n0_; have HB := n1_; have HI0 := n2_; clear n0_ n1_ n2_; (try clear hb); (try clear hb2); (try clear hk); (try clear hi)) | ((with_reducible refine gate_callee (f := 48) rfl ?_); refine goesL_ (some 12) rfl rfl Tryd.func48 (by kernel_rfl) rfl #[.pointer (some ⟨g, 0, none⟩)] rfl (by (try simp only [List.map_toArray, List.map_cons, List.map_nil]); first | done | rfl | (simp only [List.length_drop, List.length_take]; rfl)) ?_; (with_reducible refine (media_Text_Token.calls k g t109 t113 t114 w0 _ ?side1 ?side2 A7.out).mono ?_); (case side1 => repeat (first | (with_reducible first | exact HI0.out | apply IsS58.alloc | apply IsS58.drewN | apply IsS58.drew | apply IsS58.set_0) | exact HI0.out)); (case side2 => repeat (first | (with_reducible first | exact HB.out | apply below_alloc | apply pw_below_drewN | apply below_drew1 | refine below_set ?_ (IsS58.ge HI0.out)) | exact HB.out)); rintro e w9 ⟨rfl, hi, hb, hk⟩; refine ⟨_, rfl, ?_⟩; have n0_ := Aside0.mk (KeepBut.trans (by repeat (first | (with_reducible first | exact HK.out | apply KeepBut.set_ | apply keep_drewN | apply keep_drew | apply keep_alloc) | exact HK.out)) hk (.inl rfl)); have n1_ := Aside0.mk (hb); have n2_ := Aside0.mk (hi); clear HK; clear HB; clear HI0; have HK := n0_; have HB := n1_; have HI0 := n2_; clear n0_ n1_ n2_; (try clear hb); (try clear hb2); (try clear hk); (try clear hi)))
    go_ret2
    exact ⟨by first | rfl | (simp [errW_none, errW_some, bne_nil_] <;> rfl) | (simp [*, errW_none, errW_some] <;> rfl), by repeat (first | (with_reducible first | exact HI0.out | apply IsS58.alloc | apply IsS58.drewN | apply IsS58.drew | apply IsS58.set_0) | exact HI0.out), by repeat (first | (with_reducible first | exact HB.out | apply below_alloc | apply pw_below_drewN | apply below_drew1 | refine below_set ?_ (IsS58.ge HI0.out)) | exact HB.out), by repeat (first | (with_reducible first | exact HK.out | apply KeepBut.set_ | apply keep_drewN | apply keep_drew | apply keep_alloc) | exact HK.out)⟩

end Go.Proofs.YteonhdfjfjpbjaaDoor.P

/- Px8 -/
namespace Go.Proofs.YteonhdfjfjpbjaaDoor.P
open Go.Proofs.YteonhdfjfjpbjaaDoor.B
open Go.RowKit Go.Proofs.YteonhdfjfjpbjaaDoorW.PrintWords Go.Proofs.YteonhdfjfjpbjaaDoorW.PrintLast Go.Proofs.YteonhdfjfjpbjaaDoorW.PrintMore
attribute [local go_sem] str_leq str_gtr str_geq max2_int min2_int max_two min_two max_three min_three max_four min_four   -- for this text's walks alone
set_option linter.unusedVariables false
set_option linter.unusedSimpArgs false

open Go.Proofs.YteonhdfjfjpbjaaDoor.O
/-! ### media_Text_Params: function 26 -/
mutual
def media_Text_Params.l0 : Nat → List (S69) → ByteArray → Option ((List (S69)) × Bool × ByteArray)
  | 0, _, _ => none
  | k + 1, x2, x1000 => if x1000.toList = ([] : List UInt8) then (some (x2, true, x1000)) else ((media_Text_Take.f x1000 (⟨#[59]⟩ : ByteArray)).bind fun bt116 => (if bt116.1 = true then ((media_Text_Skip.f bt116.2).bind fun t118 => ((media_Text_Token.f k t118).bind fun bt119 => (if bt119.1.toList = ([] : List UInt8) then (media_Text_Params.j1 k x2 bt119.1 true bt119.2) else ((media_Text_Take.f bt119.2 (⟨#[61]⟩ : ByteArray)).bind fun bt121 => (media_Text_Params.j1 k x2 bt119.1 (!bt121.1) bt121.2))))) else (some (([] : List (S69)), false, bt116.2))))
def media_Text_Params.j1 : Nat → List (S69) → ByteArray → Bool → ByteArray → Option ((List (S69)) × Bool × ByteArray)
  | 0, _, _, _, _ => none
  | k + 1, x2, x4, x28, x1000 => if x28 = true then (some (([] : List (S69)), false, x1000)) else ((media_Text_Value.f k x1000).bind fun bt123 => (if bt123.2.1 = true then ((media_Small.f x4).bind fun t126 => (if x2.length < 4398046511104 then ((media_Text_Skip.f bt123.2.2).bind fun t130 => (media_Text_Params.l0 k (x2 ++ [(⟨t126, bt123.1⟩ : S69)]) t130)) else (none))) else (some (([] : List (S69)), false, bt123.2.2))))
end
def media_Text_Params.f (k : Nat) (s0_0 : ByteArray) : Option ((List (S69)) × Bool × ByteArray) := (media_Text_Skip.f s0_0).bind fun t115 => (media_Text_Params.l0 k ([] : List (S69)) t115)
theorem media_Text_Params.mono_l : ∀ k, (∀ y0 y1, LeO (media_Text_Params.l0 k y0 y1) (media_Text_Params.l0 (k + 1) y0 y1)) ∧ (∀ y0 y1 y2 y3, LeO (media_Text_Params.j1 k y0 y1 y2 y3) (media_Text_Params.j1 (k + 1) y0 y1 y2 y3))
  | 0 => ⟨fun _ _ r h => by simp [media_Text_Params.l0] at h, fun _ _ _ _ r h => by simp [media_Text_Params.j1] at h⟩
  | k + 1 => by
    obtain ⟨ih0, ih1⟩ := media_Text_Params.mono_l k
    refine ⟨?_, ?_⟩
    · intro y0 y1
      unfold media_Text_Params.l0
      repeat' first
      | (with_reducible exact ih0 _ _)
      | (with_reducible exact ih1 _ _ _ _)
      | (with_reducible exact media_Text_Token.mono _ _)
      | (with_reducible exact media_Text_Value.mono _ _)
      | (with_reducible exact LeO.refl _)
      | (with_reducible exact LeO.none _)
      | (with_reducible refine LeO.ite ?_ ?_)
      | (with_reducible refine LeO.bind ?_ (fun _ => ?_))
      | exact ih0 _ _
      | exact ih1 _ _ _ _
      | exact media_Text_Token.mono _ _
      | exact media_Text_Value.mono _ _
      | exact LeO.none _
      | refine LeO.ite ?_ ?_
      | refine LeO.bind ?_ (fun _ => ?_)
    · intro y0 y1 y2 y3
      unfold media_Text_Params.j1
      repeat' first
      | (with_reducible exact ih0 _ _)
      | (with_reducible exact ih1 _ _ _ _)
      | (with_reducible exact media_Text_Token.mono _ _)
      | (with_reducible exact media_Text_Value.mono _ _)
      | (with_reducible exact LeO.refl _)
      | (with_reducible exact LeO.none _)
      | (with_reducible refine LeO.ite ?_ ?_)
      | (with_reducible refine LeO.bind ?_ (fun _ => ?_))
      | exact ih0 _ _
      | exact ih1 _ _ _ _
      | exact media_Text_Token.mono _ _
      | exact media_Text_Value.mono _ _
      | exact LeO.none _
      | refine LeO.ite ?_ ?_
      | refine LeO.bind ?_ (fun _ => ?_)
theorem media_Text_Params.mono : ∀ a0 k, LeO (media_Text_Params.f k a0) (media_Text_Params.f (k + 1) a0) := by
  intro a0 k
  obtain ⟨ih0, ih1⟩ := media_Text_Params.mono_l k
  unfold media_Text_Params.f
  repeat' first
      | (with_reducible exact ih0 _ _)
      | (with_reducible exact ih1 _ _ _ _)
      | (with_reducible exact media_Text_Token.mono _ _)
      | (with_reducible exact media_Text_Value.mono _ _)
      | (with_reducible exact LeO.refl _)
      | (with_reducible exact LeO.none _)
      | (with_reducible refine LeO.ite ?_ ?_)
      | (with_reducible refine LeO.bind ?_ (fun _ => ?_))
      | exact ih0 _ _
      | exact ih1 _ _ _ _
      | exact media_Text_Token.mono _ _
      | exact media_Text_Value.mono _ _
      | exact LeO.none _
      | refine LeO.ite ?_ ?_
      | refine LeO.bind ?_ (fun _ => ?_)
set_option maxHeartbeats 8000000 in
set_option maxRecDepth 100000 in
theorem media_Text_Params.calls (k : Nat) (g : Nat) (s0_0 : ByteArray) (r1 : List (S69)) (r2 : Bool) (r3 : ByteArray) (w0 w : World) (hI : IsS58 w0 w g s0_0) (hB : Below w0.heap.size w0 w) (h : media_Text_Params.f k s0_0 = some (r1, r2, r3)) :
    Calls Tryd.prog 26 #[.pointer (some ⟨g, 0, none⟩)] w fun e w' => ∃ v0_ : Value, e = .returned (.tuple #[v0_, .bool r2]) ∧ Kd.R k69 69 w' w.heap.size (fun _ => True) v0_ r1 ∧ IsS58 w0 w' g r3 ∧ Below w0.heap.size w0 w' ∧ KeepBut w w' g none := by
  have hu69 := Tryd.underlying69
  have HI0 := Aside0.mk hI
  have HK := Aside0.mk (KeepBut.refl w g none)
  have HL := Aside0.mk hB.size
  clear hI
  have HW0 := Aside0.mk hB.size
  have HB := Aside0.mk hB
  clear hB
  have H : ((media_Text_Skip.f s0_0).bind fun t115 => (media_Text_Params.l0 k ([] : List (S69)) t115)) = some (r1, r2, r3) := h
  clear h
  replace H := Option.bind_eq_some_iff.mp H
  obtain ⟨t115, A20, H⟩ := H
  replace H : (media_Text_Params.l0 k ([] : List (S69)) t115) = some (r1, r2, r3) := H
  have A2 := Aside0.mk A20
  clear A20
  have H' := Aside0.mk H
  clear H
  go_enter Tryd.func26, Tryd.ntmps26
  go_wp2_with (first | ((with_reducible refine gate_callee (f := 46) rfl ?_); refine goesL_ (some 8) rfl rfl Tryd.func46 (by kernel_rfl) rfl #[.pointer (some ⟨g, 0, none⟩)] rfl (by (try simp only [List.map_toArray, List.map_cons, List.map_nil]); first | done | rfl | (simp only [List.length_drop, List.length_take]; rfl)) ?_; (with_reducible refine (media_Text_Skip.calls g s0_0 t115 w0 _ ?side1 ?side2 A2.out).mono ?_); (case side1 => repeat (first | (with_reducible first | exact HI0.out | apply IsS58.alloc | apply IsS58.drewN | apply IsS58.drew | apply IsS58.set_0) | exact HI0.out)); (case side2 => repeat (first | (with_reducible first | exact HB.out | apply below_alloc | apply pw_below_drewN | apply below_drew1 | refine below_set ?_ (IsS58.ge HI0.out)) | exact HB.out)); rintro e w3 ⟨rfl, hi, hb, hk⟩; refine ⟨_, rfl, ?_⟩; have n0_ := Aside0.mk (KeepBut.trans (by repeat (first | (with_reducible first | exact HK.out | apply KeepBut.set_ | apply keep_drewN | apply keep_drew | apply keep_alloc) | exact HK.out)) hk (.inl rfl)); have n1_ := Aside0.mk (hb); have n2_ := Aside0.mk (hi); clear HK; clear HB; clear HI0; have HK := n0_; have HB := n1_; have HI0 := n2_; clear n0_ n1_ n2_; (try clear hb); (try clear hb2); (try clear hk); (try clear hi)))
  first | go_loopg [2] k (fun kq v2 w' => ∃ (x2_1 : List (S69)) (x1000_1 : ByteArray), Aside0 (media_Text_Params.l0 kq x2_1 x1000_1 = some (r1, r2, r3)) ∧ Aside0 (kq ≤ k) ∧ Aside0 (Kd.R k69 69 w' w.heap.size (fun _ => True) v2 x2_1) ∧ Aside0 (IsS58 w0 w' g x1000_1) ∧ Aside0 (KeepBut w w' g none) ∧ Aside0 (Below w0.heap.size w0 w')) | (go_simp; go_loopg [2] k (fun kq v2 w' => ∃ (x2_1 : List (S69)) (x1000_1 : ByteArray), Aside0 (media_Text_Params.l0 kq x2_1 x1000_1 = some (r1, r2, r3)) ∧ Aside0 (kq ≤ k) ∧ Aside0 (Kd.R k69 69 w' w.heap.size (fun _ => True) v2 x2_1) ∧ Aside0 (IsS58 w0 w' g x1000_1) ∧ Aside0 (KeepBut w w' g none) ∧ Aside0 (Below w0.heap.size w0 w')))
  case atStart => exact ⟨(([] : List (S69))), (t115), H', ⟨Nat.le_refl _⟩, ⟨by first | exact Kd.R_nil _ _ _ _ _ | exact Kd.N_nil _ _ _ _ _ | exact Kd.V_nil _ _ _ _ _ | exact Kd.Q_nil _ _ _ _ _ | exact Kd.S_nil _ _ _ _ _⟩, ⟨by repeat (first | (with_reducible first | exact HI0.out | apply IsS58.alloc | apply IsS58.drewN | apply IsS58.drew | apply IsS58.set_0) | exact HI0.out)⟩, ⟨by repeat (first | (with_reducible first | exact HK.out | apply KeepBut.set_ | apply keep_drewN | apply keep_drew | apply keep_alloc) | exact HK.out)⟩, ⟨by repeat (first | (with_reducible first | exact HB.out | apply below_alloc | apply pw_below_drewN | apply below_drew1 | refine below_set ?_ (IsS58.ge HI0.out)) | exact HB.out)⟩⟩
  case round =>
    clear H'
    try clear c2
    try clear p2
    obtain ⟨x2_1, x1000_1, HA, HK1, HO_2, HI0, HK, HB⟩ := hrel
    cases gk with
    | zero => exact absurd HA.out (by simp [media_Text_Params.l0])
    | succ k1 =>
      have H := HA.out
      clear HA
      simp only [media_Text_Params.l0] at H
      by_cases c4 : x1000_1.toList = ([] : List UInt8)
      · rw [if_pos c4] at H
        have c4b0 : (x1000_1.toList == ([] : List UInt8)) = true := beq_iff_eq.mpr c4
        have c4b1 : (x1000_1.toList != ([] : List UInt8)) = false := bne_eq_false_iff_eq.mpr c4
        clear c4
        simp only [Option.some.injEq, Prod.mk.injEq] at H
        obtain ⟨rfl, rfl, rfl⟩ := H
        obtain ⟨HGz5, hgz5⟩ := HI0.out
        have hcz5_0 := cellS58_0 HGz5
        have hfz5_0 := blk_frozen HGz5 0
        clear HGz5 hgz5
        go_wp2
        go_ret2
        exact ⟨_, by first | rfl | (simp [errW_none, errW_some, bne_nil_] <;> rfl) | (simp [*, errW_none, errW_some] <;> rfl), by (with_reducible repeat (first | apply Kd.R_alloc | apply Kd.R_drewN | apply Kd.R_drew)); exact HO_2.out, by repeat (first | (with_reducible first | exact HI0.out | apply IsS58.alloc | apply IsS58.drewN | apply IsS58.drew | apply IsS58.set_0) | exact HI0.out), by repeat (first | (with_reducible first | exact HB.out | apply below_alloc | apply pw_below_drewN | apply below_drew1 | refine below_set ?_ (IsS58.ge HI0.out)) | exact HB.out), by repeat (first | (with_reducible first | exact HK.out | apply KeepBut.set_ | apply keep_drewN | apply keep_drew | apply keep_alloc) | exact HK.out)⟩
      · rw [if_neg c4] at H
        have c4b0 : (x1000_1.toList == ([] : List UInt8)) = false := beq_eq_false_iff_ne.mpr c4
        have c4b1 : (x1000_1.toList != ([] : List UInt8)) = true := bne_iff_ne.mpr c4
        replace H := Option.bind_eq_some_iff.mp H
        obtain ⟨⟨t116, t117⟩, A60, H⟩ := H
        replace H : (if t116 = true then ((media_Text_Skip.f t117).bind fun t118 => ((media_Text_Token.f k1 t118).bind fun bt119 => (if bt119.1.toList = ([] : List UInt8) then (media_Text_Params.j1 k1 x2_1 bt119.1 true bt119.2) else ((media_Text_Take.f bt119.2 (⟨#[61]⟩ : ByteArray)).bind fun bt121 => (media_Text_Params.j1 k1 x2_1 bt119.1 (!bt121.1) bt121.2))))) else (some (([] : List (S69)), false, t117))) = some (r1, r2, r3) := H
        have A6 := Aside0.mk A60
        clear A60
        by_cases c7 : t116 = true
        · subst c7
          have H1 : ((media_Text_Skip.f t117).bind fun t118 => ((media_Text_Token.f k1 t118).bind fun bt119 => (if bt119.1.toList = ([] : List UInt8) then (media_Text_Params.j1 k1 x2_1 bt119.1 true bt119.2) else ((media_Text_Take.f bt119.2 (⟨#[61]⟩ : ByteArray)).bind fun bt121 => (media_Text_Params.j1 k1 x2_1 bt119.1 (!bt121.1) bt121.2))))) = some (r1, r2, r3) := by rw [if_pos rfl] at H; exact H
          clear H
          have H := H1
          clear H1
          replace H := Option.bind_eq_some_iff.mp H
          obtain ⟨t118, A80, H⟩ := H
          replace H : ((media_Text_Token.f k1 t118).bind fun bt119 => (if bt119.1.toList = ([] : List UInt8) then (media_Text_Params.j1 k1 x2_1 bt119.1 true bt119.2) else ((media_Text_Take.f bt119.2 (⟨#[61]⟩ : ByteArray)).bind fun bt121 => (media_Text_Params.j1 k1 x2_1 bt119.1 (!bt121.1) bt121.2)))) = some (r1, r2, r3) := H
          have A8 := Aside0.mk A80
          clear A80
          replace H := Option.bind_eq_some_iff.mp H
          obtain ⟨⟨t119, t120⟩, A90, H⟩ := H
          replace H : (if t119.toList = ([] : List UInt8) then (media_Text_Params.j1 k1 x2_1 t119 true t120) else ((media_Text_Take.f t120 (⟨#[61]⟩ : ByteArray)).bind fun bt121 => (media_Text_Params.j1 k1 x2_1 t119 (!bt121.1) bt121.2))) = some (r1, r2, r3) := H
          have A9 := Aside0.mk A90
          clear A90
          have HC10 := Aside0.mk H
          clear H
          obtain ⟨HGz11, hgz11⟩ := HI0.out
          have hcz11_0 := cellS58_0 HGz11
          have hfz11_0 := blk_frozen HGz11 0
          clear HGz11 hgz11
          go_upto_region 8 with (first | ((with_reducible refine gate_callee (f := 47) rfl ?_); refine goesL_ (some 16) rfl rfl Tryd.func47 (by kernel_rfl) rfl #[.pointer (some ⟨g, 0, none⟩), .string (⟨#[59]⟩ : ByteArray)] rfl (by (try simp only [List.map_toArray, List.map_cons, List.map_nil]); first | done | rfl | (simp only [List.length_drop, List.length_take]; rfl)) ?_; (with_reducible refine (media_Text_Take.calls g x1000_1 (⟨#[59]⟩ : ByteArray) true t117 w0 _ ?side1 ?side2 A6.out).mono ?_); (case side1 => repeat (first | (with_reducible first | exact HI0.out | apply IsS58.alloc | apply IsS58.drewN | apply IsS58.drew | apply IsS58.set_0) | exact HI0.out)); (case side2 => repeat (first | (with_reducible first | exact HB.out | apply below_alloc | apply pw_below_drewN | apply below_drew1 | refine below_set ?_ (IsS58.ge HI0.out)) | exact HB.out)); rintro e w12 ⟨rfl, hi, hb, hk⟩; refine ⟨_, rfl, ?_⟩; have n0_ := Aside0.mk (Kd.R_mono (Kd.R_keep (IsS58.apart (show IsS58 w0 _ g x1000_1 from by repeat (first | (with_reducible first | exact HI0.out | apply IsS58.alloc | apply IsS58.drewN | apply IsS58.drew | apply IsS58.set_0) | exact HI0.out)) (by (with_reducible repeat (first | apply Kd.R_alloc | apply Kd.R_drewN | apply Kd.R_drew)); exact HO_2.out) (by decide)) hk (fun _ h => h.2)) (fun _ h => h.1)); have n1_ := Aside0.mk (KeepBut.trans (by repeat (first | (with_reducible first | exact HK.out | apply KeepBut.set_ | apply keep_drewN | apply keep_drew | apply keep_alloc) | exact HK.out)) hk (.inl rfl)); have n2_ := Aside0.mk (hb); have n3_ := Aside0.mk (hi); clear HO_2; clear HK; clear HB; clear HI0; have HO_2 := n0_; have HK := n1_; have HB := n2_; have HI0 := n3_; clear n0_ n1_ n2_ n3_; (try clear hb); (try clear hb2); (try clear hk); (try clear hi)) | ((with_reducible refine gate_callee (f := 46) rfl ?_); refine goesL_ (some 19) rfl rfl Tryd.func46 (by kernel_rfl) rfl #[.pointer (some ⟨g, 0, none⟩)] rfl (by (try simp only [List.map_toArray, List.map_cons, List.map_nil]); first | done | rfl | (simp only [List.length_drop, List.length_take]; rfl)) ?_; (with_reducible refine (media_Text_Skip.calls g t117 t118 w0 _ ?side1 ?side2 A8.out).mono ?_); (case side1 => repeat (first | (with_reducible first | exact HI0.out | apply IsS58.alloc | apply IsS58.drewN | apply IsS58.drew | apply IsS58.set_0) | exact HI0.out)); (case side2 => repeat (first | (with_reducible first | exact HB.out | apply below_alloc | apply pw_below_drewN | apply below_drew1 | refine below_set ?_ (IsS58.ge HI0.out)) | exact HB.out)); rintro e w13 ⟨rfl, hi, hb, hk⟩; refine ⟨_, rfl, ?_⟩; have n0_ := Aside0.mk (Kd.R_mono (Kd.R_keep (IsS58.apart (show IsS58 w0 _ g t117 from by repeat (first | (with_reducible first | exact HI0.out | apply IsS58.alloc | apply IsS58.drewN | apply IsS58.drew | apply IsS58.set_0) | exact HI0.out)) (by (with_reducible repeat (first | apply Kd.R_alloc | apply Kd.R_drewN | apply Kd.R_drew)); exact HO_2.out) (by decide)) hk (fun _ h => h.2)) (fun _ h => h.1)); have n1_ := Aside0.mk (KeepBut.trans (by repeat (first | (with_reducible first | exact HK.out | apply KeepBut.set_ | apply keep_drewN | apply keep_drew | apply keep_alloc) | exact HK.out)) hk (.inl rfl)); have n2_ := Aside0.mk (hb); have n3_ := Aside0.mk (hi); clear HO_2; clear HK; clear HB; clear HI0; have HO_2 := n0_; have HK := n1_; have HB := n2_; have HI0 := n3_; clear n0_ n1_ n2_ n3_; (try clear hb); (try clear hb2); (try clear hk); (try clear hi)) | ((with_reducible refine gate_callee (f := 48) rfl ?_); refine goesL_ (some 21) rfl rfl Tryd.func48 (by kernel_rfl) rfl #[.pointer (some ⟨g, 0, none⟩)] rfl (by (try simp only [List.map_toArray, List.map_cons, List.map_nil]); first | done | rfl | (simp only [List.length_drop, List.length_take]; rfl)) ?_; (with_reducible refine (media_Text_Token.calls k1 g t118 t119 t120 w0 _ ?side1 ?side2 A9.out).mono ?_); (case side1 => repeat (first | (with_reducible first | exact HI0.out | apply IsS58.alloc | apply IsS58.drewN | apply IsS58.drew | apply IsS58.set_0) | exact HI0.out)); (case side2 => repeat (first | (with_reducible first | exact HB.out | apply below_alloc | apply pw_below_drewN | apply below_drew1 | refine below_set ?_ (IsS58.ge HI0.out)) | exact HB.out)); rintro e w14 ⟨rfl, hi, hb, hk⟩; refine ⟨_, rfl, ?_⟩; have n0_ := Aside0.mk (Kd.R_mono (Kd.R_keep (IsS58.apart (show IsS58 w0 _ g t118 from by repeat (first | (with_reducible first | exact HI0.out | apply IsS58.alloc | apply IsS58.drewN | apply IsS58.drew | apply IsS58.set_0) | exact HI0.out)) (by (with_reducible repeat (first | apply Kd.R_alloc | apply Kd.R_drewN | apply Kd.R_drew)); exact HO_2.out) (by decide)) hk (fun _ h => h.2)) (fun _ h => h.1)); have n1_ := Aside0.mk (KeepBut.trans (by repeat (first | (with_reducible first | exact HK.out | apply KeepBut.set_ | apply keep_drewN | apply keep_drew | apply keep_alloc) | exact HK.out)) hk (.inl rfl)); have n2_ := Aside0.mk (hb); have n3_ := Aside0.mk (hi); clear HO_2; clear HK; clear HB; clear HI0; have HO_2 := n0_; have HK := n1_; have HB := n2_; have HI0 := n3_; clear n0_ n1_ n2_ n3_; (try clear hb); (try clear hb2); (try clear hk); (try clear hi)))
          (try simp only [Act.put, List.setIfInBounds_toArray, List.set_cons_zero, List.set_cons_succ])
          go_cut [28] (fun v28 wc => ∃ (kq : Nat) (x28_9 : Bool) (x1000_9 : ByteArray), v28 = .bool x28_9 ∧ Aside0 (media_Text_Params.j1 kq x2_1 t119 x28_9 x1000_9 = some (r1, r2, r3)) ∧ Aside0 (kq ≤ k1) ∧ Aside0 (Kd.R k69 69 wc w.heap.size (fun _ => True) u2 x2_1) ∧ Aside0 (IsS58 w0 wc g x1000_9) ∧ Aside0 (KeepBut w wc g none) ∧ Aside0 (Below w0.heap.size w0 wc))
          case first =>
            have H := HC10.out
            clear HC10
            by_cases c15 : t119.toList = ([] : List UInt8)
            · rw [if_pos c15] at H
              have c15b0 : (t119.toList == ([] : List UInt8)) = true := beq_iff_eq.mpr c15
              have c15b1 : (t119.toList != ([] : List UInt8)) = false := bne_eq_false_iff_eq.mpr c15
              clear c15
              (first | rw [c15b0] | (simp only [i64_w, i32_w]; rw [c15b0]) | skip)
              have H' := Aside0.mk H
              clear H
              go_wp2
              go_meet
              case rel => exact ⟨_, (true), (t120), (by first | rfl | (simp; done) | (simp [*]; done)), H', ⟨by have := HK1.out; first | omega | exact Nat.le_refl _⟩, ⟨by (with_reducible repeat (first | apply Kd.R_alloc | apply Kd.R_drewN | apply Kd.R_drew)); exact HO_2.out⟩, ⟨by repeat (first | (with_reducible first | exact HI0.out | apply IsS58.alloc | apply IsS58.drewN | apply IsS58.drew | apply IsS58.set_0) | exact HI0.out)⟩, ⟨by repeat (first | (with_reducible first | exact HK.out | apply KeepBut.set_ | apply keep_drewN | apply keep_drew | apply keep_alloc) | exact HK.out)⟩, ⟨by repeat (first | (with_reducible first | exact HB.out | apply below_alloc | apply pw_below_drewN | apply below_drew1 | refine below_set ?_ (IsS58.ge HI0.out)) | exact HB.out)⟩⟩
            · rw [if_neg c15] at H
              have c15b0 : (t119.toList == ([] : List UInt8)) = false := beq_eq_false_iff_ne.mpr c15
              have c15b1 : (t119.toList != ([] : List UInt8)) = true := bne_iff_ne.mpr c15
              (first | rw [c15b0] | (simp only [i64_w, i32_w]; rw [c15b0]) | skip)
              replace H := Option.bind_eq_some_iff.mp H
              obtain ⟨⟨t121, t122⟩, A160, H⟩ := H
              replace H : (media_Text_Params.j1 k1 x2_1 t119 (!t121) t122) = some (r1, r2, r3) := H
              have A16 := Aside0.mk A160
              clear A160
              have H' := Aside0.mk H
              clear H
              go_wp2_with (first | (go_at_call 47; (with_reducible refine (media_Text_Take.calls g t120 (⟨#[61]⟩ : ByteArray) t121 t122 w0 _ ?side1 ?side2 A16.out).mono ?_); (case side1 => repeat (first | (with_reducible first | exact HI0.out | apply IsS58.alloc | apply IsS58.drewN | apply IsS58.drew | apply IsS58.set_0) | exact HI0.out)); (case side2 => repeat (first | (with_reducible first | exact HB.out | apply below_alloc | apply pw_below_drewN | apply below_drew1 | refine below_set ?_ (IsS58.ge HI0.out)) | exact HB.out)); rintro e w17 ⟨rfl, hi, hb, hk⟩; have n0_ := Aside0.mk (Kd.R_mono (Kd.R_keep (IsS58.apart (show IsS58 w0 _ g t120 from by repeat (first | (with_reducible first | exact HI0.out | apply IsS58.alloc | apply IsS58.drewN | apply IsS58.drew | apply IsS58.set_0) | exact HI0.out)) (by (with_reducible repeat (first | apply Kd.R_alloc | apply Kd.R_drewN | apply Kd.R_drew)); exact HO_2.out) (by decide)) hk (fun _ h => h.2)) (fun _ h => h.1)); have n1_ := Aside0.mk (KeepBut.trans (by repeat (first | (with_reducible first | exact HK.out | apply KeepBut.set_ | apply keep_drewN | apply keep_drew | apply keep_alloc) | exact HK.out)) hk (.inl rfl)); have n2_ := Aside0.mk (hb); have n3_ := Aside0.mk (hi); clear HO_2; clear HK; clear HB; clear HI0; have HO_2 := n0_; have HK := n1_; have HB := n2_; have HI0 := n3_; clear n0_ n1_ n2_ n3_; (try clear hb); (try clear hb2); (try clear hk); (try clear hi)))
              go_meet
              case rel => exact ⟨_, (!t121), (t122), (by first | rfl | (simp; done) | (simp [*]; done)), H', ⟨by have := HK1.out; first | omega | exact Nat.le_refl _⟩, ⟨by (with_reducible repeat (first | apply Kd.R_alloc | apply Kd.R_drewN | apply Kd.R_drew)); exact HO_2.out⟩, ⟨by repeat (first | (with_reducible first | exact HI0.out | apply IsS58.alloc | apply IsS58.drewN | apply IsS58.drew | apply IsS58.set_0) | exact HI0.out)⟩, ⟨by repeat (first | (with_reducible first | exact HK.out | apply KeepBut.set_ | apply keep_drewN | apply keep_drew | apply keep_alloc) | exact HK.out)⟩, ⟨by repeat (first | (with_reducible first | exact HB.out | apply below_alloc | apply pw_below_drewN | apply below_drew1 | refine below_set ?_ (IsS58.ge HI0.out)) | exact HB.out)⟩⟩
          case rest =>
            clear HC10
            try clear c1
            try clear c2
            try clear p2
            try clear c4
            try clear c4b0
            try clear c4b1
            try clear c7
            try clear c15
            try clear c15b0
            try clear c15b1
            try clear hcz11_0
            try clear hcz5_0
            try clear hfz11_0
            try clear hfz5_0
            try clear p2
            obtain ⟨kq, x28_9, x1000_9, rfl, HA, HJ9, HO_2, HI0, HK, HB⟩ := hcut
            cases kq with
            | zero => exact absurd HA.out (by simp [media_Text_Params.j1])
            | succ kj9 =>
              have H := HA.out
              clear HA
              simp only [media_Text_Params.j1] at H
              by_cases c18 : x28_9 = true
              · subst c18
                have H1 : (some (([] : List (S69)), false, x1000_9)) = some (r1, r2, r3) := by rw [if_pos rfl] at H; exact H
                clear H
                have H := H1
                clear H1
                simp only [Option.some.injEq, Prod.mk.injEq] at H
                obtain ⟨rfl, rfl, rfl⟩ := H
                go_wp2
                go_ret2
                exact ⟨_, by first | rfl | (simp [errW_none, errW_some, bne_nil_] <;> rfl) | (simp [*, errW_none, errW_some] <;> rfl), by first | exact Kd.R_nil _ _ _ _ _ | exact Kd.N_nil _ _ _ _ _ | exact Kd.V_nil _ _ _ _ _ | exact Kd.Q_nil _ _ _ _ _ | exact Kd.S_nil _ _ _ _ _, by repeat (first | (with_reducible first | exact HI0.out | apply IsS58.alloc | apply IsS58.drewN | apply IsS58.drew | apply IsS58.set_0) | exact HI0.out), by repeat (first | (with_reducible first | exact HB.out | apply below_alloc | apply pw_below_drewN | apply below_drew1 | refine below_set ?_ (IsS58.ge HI0.out)) | exact HB.out), by repeat (first | (with_reducible first | exact HK.out | apply KeepBut.set_ | apply keep_drewN | apply keep_drew | apply keep_alloc) | exact HK.out)⟩
              · replace c18 := Bool.eq_false_iff.mpr c18
                subst c18
                have H1 : ((media_Text_Value.f kj9 x1000_9).bind fun bt123 => (if bt123.2.1 = true then ((media_Small.f t119).bind fun t126 => (if x2_1.length < 4398046511104 then ((media_Text_Skip.f bt123.2.2).bind fun t130 => (media_Text_Params.l0 kj9 (x2_1 ++ [(⟨t126, bt123.1⟩ : S69)]) t130)) else (none))) else (some (([] : List (S69)), false, bt123.2.2)))) = some (r1, r2, r3) := by rw [if_neg (show ¬ (false = true) by decide)] at H; exact H
                clear H
                have H := H1
                clear H1
                replace H := Option.bind_eq_some_iff.mp H
                obtain ⟨⟨t123, t124, t125⟩, A190, H⟩ := H
                replace H : (if t124 = true then ((media_Small.f t119).bind fun t126 => (if x2_1.length < 4398046511104 then ((media_Text_Skip.f t125).bind fun t130 => (media_Text_Params.l0 kj9 (x2_1 ++ [(⟨t126, t123⟩ : S69)]) t130)) else (none))) else (some (([] : List (S69)), false, t125))) = some (r1, r2, r3) := H
                have A19 := Aside0.mk A190
                clear A190
                by_cases c20 : t124 = true
                · subst c20
                  have H1 : ((media_Small.f t119).bind fun t126 => (if x2_1.length < 4398046511104 then ((media_Text_Skip.f t125).bind fun t130 => (media_Text_Params.l0 kj9 (x2_1 ++ [(⟨t126, t123⟩ : S69)]) t130)) else (none))) = some (r1, r2, r3) := by rw [if_pos rfl] at H; exact H
                  clear H
                  have H := H1
                  clear H1
                  replace H := Option.bind_eq_some_iff.mp H
                  obtain ⟨t126, A210, H⟩ := H
                  replace H : (if x2_1.length < 4398046511104 then ((media_Text_Skip.f t125).bind fun t130 => (media_Text_Params.l0 kj9 (x2_1 ++ [(⟨t126, t123⟩ : S69)]) t130)) else (none)) = some (r1, r2, r3) := H
                  have A21 := Aside0.mk A210
                  clear A210
                  by_cases c22 : x2_1.length < 4398046511104
                  · rw [if_pos c22] at H
                    have LMc22 := Aside0.mk c22
                    clear c22
                    obtain ⟨y127, hy127⟩ : ∃ y_ : List (S69), y_ = (x2_1 ++ [(⟨t126, t123⟩ : S69)]) := ⟨_, rfl⟩
                    replace H : ((media_Text_Skip.f t125).bind fun t130 => (media_Text_Params.l0 kj9 y127 t130)) = some (r1, r2, r3) := by first | (rw [hy127]; with_reducible exact H) | (have H2_ := (Option.bind_some _ _).symm.trans H; rw [hy127]; with_reducible exact H2_) | (have H2_ := (Option.bind_some _ _).symm.trans H; with_reducible exact H2_) | with_reducible exact H | (rw [hy127]; exact H) | exact H
                    have Ny127 := Aside0.mk hy127
                    clear hy127
                    replace H := Option.bind_eq_some_iff.mp H
                    obtain ⟨t130, A230, H⟩ := H
                    replace H : (media_Text_Params.l0 kj9 y127 t130) = some (r1, r2, r3) := H
                    have A23 := Aside0.mk A230
                    clear A230
                    have H' := Aside0.mk H
                    clear H
                    go_wp2_with (first | ((with_reducible refine gate_callee (f := 49) rfl ?_); refine goesL_ (some 31) rfl rfl Tryd.func49 (by kernel_rfl) rfl #[.pointer (some ⟨g, 0, none⟩)] rfl (by (try simp only [List.map_toArray, List.map_cons, List.map_nil]); first | done | rfl | (simp only [List.length_drop, List.length_take]; rfl)) ?_; (with_reducible refine (media_Text_Value.calls kj9 g x1000_9 t123 true t125 w0 _ ?side1 ?side2 A19.out).mono ?_); (case side1 => repeat (first | (with_reducible first | exact HI0.out | apply IsS58.alloc | apply IsS58.drewN | apply IsS58.drew | apply IsS58.set_0) | exact HI0.out)); (case side2 => repeat (first | (with_reducible first | exact HB.out | apply below_alloc | apply pw_below_drewN | apply below_drew1 | refine below_set ?_ (IsS58.ge HI0.out)) | exact HB.out)); rintro e w24 ⟨rfl, hi, hb, hk⟩; refine ⟨_, rfl, ?_⟩; have n0_ := Aside0.mk (Kd.R_mono (Kd.R_keep (IsS58.apart (show IsS58 w0 _ g x1000_9 from by repeat (first | (with_reducible first | exact HI0.out | apply IsS58.alloc | apply IsS58.drewN | apply IsS58.drew | apply IsS58.set_0) | exact HI0.out)) (by (with_reducible repeat (first | apply Kd.R_alloc | apply Kd.R_drewN | apply Kd.R_drew)); exact HO_2.out) (by decide)) hk (fun _ h => h.2)) (fun _ h => h.1)); have n1_ := Aside0.mk (KeepBut.trans (by repeat (first | (with_reducible first | exact HK.out | apply KeepBut.set_ | apply keep_drewN | apply keep_drew | apply keep_alloc) | exact HK.out)) hk (.inl rfl)); have n2_ := Aside0.mk (hb); have n3_ := Aside0.mk (hi); clear HO_2; clear HK; clear HB; clear HI0; have HO_2 := n0_; have HK := n1_; have HB := n2_; have HI0 := n3_; clear n0_ n1_ n2_ n3_; (try clear hb); (try clear hb2); (try clear hk); (try clear hi)) | ((with_reducible refine gate_callee (f := 50) rfl ?_); refine goesL_ (some 38) rfl rfl Tryd.func50 (by kernel_rfl) rfl #[.string t119] rfl (by (try simp only [List.map_toArray, List.map_cons, List.map_nil]); first | done | rfl | (simp only [List.length_drop, List.length_take]; rfl)) ?_; (with_reducible refine (media_Small.calls t119 t126 _ A21.out).mono ?_); rintro e w25 ⟨rfl, hb⟩; refine ⟨_, rfl, ?_⟩; have n0_ := Aside0.mk (Kd.R_below (by (with_reducible repeat (first | apply Kd.R_alloc | apply Kd.R_drewN | apply Kd.R_drew)); exact HO_2.out) hb); have n1_ := Aside0.mk (IsS58.below (by repeat (first | (with_reducible first | exact HI0.out | apply IsS58.alloc | apply IsS58.drewN | apply IsS58.drew | apply IsS58.set_0) | exact HI0.out)) hb); have n2_ := Aside0.mk (KeepBut.trans (by repeat (first | (with_reducible first | exact HK.out | apply KeepBut.set_ | apply keep_drewN | apply keep_drew | apply keep_alloc) | exact HK.out)) (KeepBut.of_below hb g none) (.inl rfl)); have n3_ := Aside0.mk (below_step (by repeat (first | (with_reducible first | exact HB.out | apply below_alloc | apply pw_below_drewN | apply below_drew1 | refine below_set ?_ (IsS58.ge HI0.out)) | exact HB.out)) hb); clear HO_2; clear HI0; clear HK; clear HB; have HO_2 := n0_; have HI0 := n1_; have HK := n2_; have HB := n3_; clear n0_ n1_ n2_ n3_; (try clear hb); (try clear hb2); (try clear hk); (try clear hi)) | ((with_reducible refine gate_builtin (b := .append) (xs := #[.tmp 36, .tmp 41]) rfl ?_); at_builtin; refine Kd.R_append k69 w.heap.size rfl (.tmp 36) (.tmp 41) 46 69 (.agg #[(.string ⟨#[]⟩), (.string ⟨#[]⟩)]) 32 rfl Tryd.underlying46 info69 rfl (by decide) (by omega) u2 x2_1 (⟨t126, t123⟩ : S69) [.string t126, .string t123] (fun _ => True) (fun _ => False) rfl rfl ?aP (fun _ hk => hk.elim) ?aF ?aO (Below.refl _ _) ?aS ?aL ?_; (case aP => exact k69_mkM _ _ _ (⟨t126, t123⟩ : S69)); (case aF => exact (fun _ _ => trivial)); (case aO => exact (by (with_reducible repeat (first | apply Kd.R_alloc | apply Kd.R_drewN | apply Kd.R_drew)); exact HO_2.out)); (case aS => exact (keep_size (w := w) (g := g) (row := none) (by repeat (first | (with_reducible first | exact HK.out | apply KeepBut.set_ | apply keep_drewN | apply keep_drew | apply keep_alloc) | exact HK.out)))); (case aL => have := LMc22.out; omega); intro v128 w26 ho hb hg hat; rw [← Ny127.out] at ho; have n0_ := Aside0.mk (IsS58.grown (by repeat (first | (with_reducible first | exact HI0.out | apply IsS58.alloc | apply IsS58.drewN | apply IsS58.drew | apply IsS58.set_0) | exact HI0.out)) hg (IsS58.own_far HI0.out HO_2.out (by decide))); have n1_ := Aside0.mk (below_weaken (by repeat (first | (with_reducible first | exact HB.out | apply below_alloc | apply pw_below_drewN | apply below_drew1 | refine below_set ?_ (IsS58.ge HI0.out)) | exact HB.out)) HL.out hb); have n2_ := Aside0.mk (KeepBut.trans (by repeat (first | (with_reducible first | exact HK.out | apply KeepBut.set_ | apply keep_drewN | apply keep_drew | apply keep_alloc) | exact HK.out)) (KeepBut.of_grown hg g) (Kd.R_base2 HO_2.out)); have n3_ := Aside0.mk (ho); clear HI0; clear HB; clear HK; clear HO_2; have HI0 := n0_; have HB := n1_; have HK := n2_; have HO129 := n3_; clear n0_ n1_ n2_ n3_; clear ho hb hg hat) | ((with_reducible refine gate_callee (f := 46) rfl ?_); refine goesL_ (some 14) rfl rfl Tryd.func46 (by kernel_rfl) rfl #[.pointer (some ⟨g, 0, none⟩)] rfl (by (try simp only [List.map_toArray, List.map_cons, List.map_nil]); first | done | rfl | (simp only [List.length_drop, List.length_take]; rfl)) ?_; (with_reducible refine (media_Text_Skip.calls g t125 t130 w0 _ ?side1 ?side2 A23.out).mono ?_); (case side1 => repeat (first | (with_reducible first | exact HI0.out | apply IsS58.alloc | apply IsS58.drewN | apply IsS58.drew | apply IsS58.set_0) | exact HI0.out)); (case side2 => repeat (first | (with_reducible first | exact HB.out | apply below_alloc | apply pw_below_drewN | apply below_drew1 | refine below_set ?_ (IsS58.ge HI0.out)) | exact HB.out)); rintro e w27 ⟨rfl, hi, hb, hk⟩; refine ⟨_, rfl, ?_⟩; have n0_ := Aside0.mk (Kd.R_mono (Kd.R_keep (IsS58.apart (show IsS58 w0 _ g t125 from by repeat (first | (with_reducible first | exact HI0.out | apply IsS58.alloc | apply IsS58.drewN | apply IsS58.drew | apply IsS58.set_0) | exact HI0.out)) (by (with_reducible repeat (first | apply Kd.R_alloc | apply Kd.R_drewN | apply Kd.R_drew)); exact HO129.out) (by decide)) hk (fun _ h => h.2)) (fun _ h => h.1)); have n1_ := Aside0.mk (KeepBut.trans (by repeat (first | (with_reducible first | exact HK.out | apply KeepBut.set_ | apply keep_drewN | apply keep_drew | apply keep_alloc) | exact HK.out)) hk (.inl rfl)); have n2_ := Aside0.mk (hb); have n3_ := Aside0.mk (hi); clear HO129; clear HK; clear HB; clear HI0; have HO129 := n0_; have HK := n1_; have HB := n2_; have HI0 := n3_; clear n0_ n1_ n2_ n3_; (try clear hb); (try clear hb2); (try clear hk); (try clear hi)))
                    go_roundg kj9
                    case measure => have := HK1.out; have := HJ9.out; omega
                    case rel => exact ⟨(y127), (t130), H', ⟨by have := HK1.out; have := HJ9.out; omega⟩, ⟨by (with_reducible repeat (first | apply Kd.R_alloc | apply Kd.R_drewN | apply Kd.R_drew)); exact HO129.out⟩, ⟨by repeat (first | (with_reducible first | exact HI0.out | apply IsS58.alloc | apply IsS58.drewN | apply IsS58.drew | apply IsS58.set_0) | exact HI0.out)⟩, ⟨by repeat (first | (with_reducible first | exact HK.out | apply KeepBut.set_ | apply keep_drewN | apply keep_drew | apply keep_alloc) | exact HK.out)⟩, ⟨by repeat (first | (with_reducible first | exact HB.out | apply below_alloc | apply pw_below_drewN | apply below_drew1 | refine below_set ?_ (IsS58.ge HI0.out)) | exact HB.out)⟩⟩
                  · rw [if_neg c22] at H
                    exact absurd H (by simp)
                · replace c20 := Bool.eq_false_iff.mpr c20
                  subst c20
                  have H1 : (some (([] : List (S69)), false, t125)) = some (r1, r2, r3) := by rw [if_neg (show ¬ (false = true) by decide)] at H; exact H
                  clear H
                  have H := H1
                  clear H1
                  simp only [Option.some.injEq, Prod.mk.injEq] at H
                  obtain ⟨rfl, rfl, rfl⟩ := H
                  go_wp2_with (first | ((with_reducible refine gate_callee (f := 49) rfl ?_); refine goesL_ (some 31) rfl rfl Tryd.func49 (by kernel_rfl) rfl #[.pointer (some ⟨g, 0, none⟩)] rfl (by (try simp only [List.map_toArray, List.map_cons, List.map_nil]); first | done | rfl | (simp only [List.length_drop, List.length_take]; rfl)) ?_; (with_reducible refine (media_Text_Value.calls kj9 g x1000_9 t123 false t125 w0 _ ?side1 ?side2 A19.out).mono ?_); (case side1 => repeat (first | (with_reducible first | exact HI0.out | apply IsS58.alloc | apply IsS58.drewN | apply IsS58.drew | apply IsS58.set_0) | exact HI0.out)); (case side2 => repeat (first | (with_reducible first | exact HB.out | apply below_alloc | apply pw_below_drewN | apply below_drew1 | refine below_set ?_ (IsS58.ge HI0.out)) | exact HB.out)); rintro e w28 ⟨rfl, hi, hb, hk⟩; refine ⟨_, rfl, ?_⟩; have n0_ := Aside0.mk (Kd.R_mono (Kd.R_keep (IsS58.apart (show IsS58 w0 _ g x1000_9 from by repeat (first | (with_reducible first | exact HI0.out | apply IsS58.alloc | apply IsS58.drewN | apply IsS58.drew | apply IsS58.set_0) | exact HI0.out)) (by (with_reducible repeat (first | apply Kd.R_alloc | apply Kd.R_drewN | apply Kd.R_drew)); exact HO_2.out) (by decide)) hk (fun _ h => h.2)) (fun _ h => h.1)); have n1_ := Aside0.mk (KeepBut.trans (by repeat (first | (with_reducible first | exact HK.out | apply KeepBut.set_ | apply keep_drewN | apply keep_drew | apply keep_alloc) | exact HK.out)) hk (.inl rfl)); have n2_ := Aside0.mk (hb); have n3_ := Aside0.mk (hi); clear HO_2; clear HK; clear HB; clear HI0; have HO_2 := n0_; have HK := n1_; have HB := n2_; have HI0 := n3_; clear n0_ n1_ n2_ n3_; (try clear hb); (try clear hb2); (try clear hk); (try clear hi)))
                  go_ret2
                  exact ⟨_, by first | rfl | (simp [errW_none, errW_some, bne_nil_] <;> rfl) | (simp [*, errW_none, errW_some] <;> rfl), by first | exact Kd.R_nil _ _ _ _ _ | exact Kd.N_nil _ _ _ _ _ | exact Kd.V_nil _ _ _ _ _ | exact Kd.Q_nil _ _ _ _ _ | exact Kd.S_nil _ _ _ _ _, by repeat (first | (with_reducible first | exact HI0.out | apply IsS58.alloc | apply IsS58.drewN | apply IsS58.drew | apply IsS58.set_0) | exact HI0.out), by repeat (first | (with_reducible first | exact HB.out | apply below_alloc | apply pw_below_drewN | apply below_drew1 | refine below_set ?_ (IsS58.ge HI0.out)) | exact HB.out), by repeat (first | (with_reducible first | exact HK.out | apply KeepBut.set_ | apply keep_drewN | apply keep_drew | apply keep_alloc) | exact HK.out)⟩
        · replace c7 := Bool.eq_false_iff.mpr c7
          subst c7
          have H1 : (some (([] : List (S69)), false, t117)) = some (r1, r2, r3) := by rw [if_neg (show ¬ (false = true) by decide)] at H; exact H
          clear H
          have H := H1
          clear H1
          simp only [Option.some.injEq, Prod.mk.injEq] at H
          obtain ⟨rfl, rfl, rfl⟩ := H
          obtain ⟨HGz29, hgz29⟩ := HI0.out
          have hcz29_0 := cellS58_0 HGz29
          have hfz29_0 := blk_frozen HGz29 0
          clear HGz29 hgz29
          go_wp2_with (first | ((with_reducible refine gate_callee (f := 47) rfl ?_); refine goesL_ (some 16) rfl rfl Tryd.func47 (by kernel_rfl) rfl #[.pointer (some ⟨g, 0, none⟩), .string (⟨#[59]⟩ : ByteArray)] rfl (by (try simp only [List.map_toArray, List.map_cons, List.map_nil]); first | done | rfl | (simp only [List.length_drop, List.length_take]; rfl)) ?_; (with_reducible refine (media_Text_Take.calls g x1000_1 (⟨#[59]⟩ : ByteArray) false t117 w0 _ ?side1 ?side2 A6.out).mono ?_); (case side1 => repeat (first | (with_reducible first | exact HI0.out | apply IsS58.alloc | apply IsS58.drewN | apply IsS58.drew | apply IsS58.set_0) | exact HI0.out)); (case side2 => repeat (first | (with_reducible first | exact HB.out | apply below_alloc | apply pw_below_drewN | apply below_drew1 | refine below_set ?_ (IsS58.ge HI0.out)) | exact HB.out)); rintro e w30 ⟨rfl, hi, hb, hk⟩; refine ⟨_, rfl, ?_⟩; have n0_ := Aside0.mk (Kd.R_mono (Kd.R_keep (IsS58.apart (show IsS58 w0 _ g x1000_1 from by repeat (first | (with_reducible first | exact HI0.out | apply IsS58.alloc | apply IsS58.drewN | apply IsS58.drew | apply IsS58.set_0) | exact HI0.out)) (by (with_reducible repeat (first | apply Kd.R_alloc | apply Kd.R_drewN | apply Kd.R_drew)); exact HO_2.out) (by decide)) hk (fun _ h => h.2)) (fun _ h => h.1)); have n1_ := Aside0.mk (KeepBut.trans (by repeat (first | (with_reducible first | exact HK.out | apply KeepBut.set_ | apply keep_drewN | apply keep_drew | apply keep_alloc) | exact HK.out)) hk (.inl rfl)); have n2_ := Aside0.mk (hb); have n3_ := Aside0.mk (hi); clear HO_2; clear HK; clear HB; clear HI0; have HO_2 := n0_; have HK := n1_; have HB := n2_; have HI0 := n3_; clear n0_ n1_ n2_ n3_; (try clear hb); (try clear hb2); (try clear hk); (try clear hi)))
          go_ret2
          exact ⟨_, by first | rfl | (simp [errW_none, errW_some, bne_nil_] <;> rfl) | (simp [*, errW_none, errW_some] <;> rfl), by first | exact Kd.R_nil _ _ _ _ _ | exact Kd.N_nil _ _ _ _ _ | exact Kd.V_nil _ _ _ _ _ | exact Kd.Q_nil _ _ _ _ _ | exact Kd.S_nil _ _ _ _ _, by repeat (first | (with_reducible first | exact HI0.out | apply IsS58.alloc | apply IsS58.drewN | apply IsS58.drew | apply IsS58.set_0) | exact HI0.out), by repeat (first | (with_reducible first | exact HB.out | apply below_alloc | apply pw_below_drewN | apply below_drew1 | refine below_set ?_ (IsS58.ge HI0.out)) | exact HB.out), by repeat (first | (with_reducible first | exact HK.out | apply KeepBut.set_ | apply keep_drewN | apply keep_drew | apply keep_alloc) | exact HK.out)⟩

end Go.Proofs.YteonhdfjfjpbjaaDoor.P

/- Ohex -/
namespace Go.Proofs.YteonhdfjfjpbjaaDoor.O
open Go.RowKit Go.Proofs.YteonhdfjfjpbjaaDoorW.PrintWords Go.Proofs.YteonhdfjfjpbjaaDoorW.PrintLast Go.Proofs.YteonhdfjfjpbjaaDoorW.PrintMore
set_option linter.unusedVariables false
set_option linter.unusedSimpArgs false

def isHex (c : Int) : Bool := decide (48 ≤ c) && decide (c ≤ 57) || decide (65 ≤ c) && decide (c ≤ 70) || decide (97 ≤ c) && decide (c ≤ 102)
def hexI (c : Int) : Int := if c ≤ 57 then c - 48 else if c ≤ 70 then c - 55 else c - 87
theorem isHex_cases {c : Int} (h : isHex c = true) : (48 ≤ c ∧ c ≤ 57) ∨ (65 ≤ c ∧ c ≤ 70) ∨ (97 ≤ c ∧ c ≤ 102) := by
  unfold isHex at h
  simp at h
  omega
theorem hexI_bd {c : Int} (h : isHex c = true) : 0 ≤ hexI c ∧ hexI c ≤ 15 := by
  have := isHex_cases h
  unfold hexI
  split
  · omega
  · split <;> omega
theorem or_small (c : Int) (h : 97 ≤ c ∧ c ≤ 102) : Go.bits .or .u8 c 32 = c := by
  obtain ⟨a, rfl⟩ := Int.eq_ofNat_of_zero_le (show 0 ≤ c by omega)
  have key : ∀ a : Fin 6, Go.bits .or .u8 (((a.val + 97 : Nat)) : Int) 32 = ((a.val + 97 : Nat) : Int) := by decide +kernel
  have := key ⟨a - 97, by omega⟩
  rwa [show a - 97 + 97 = a by omega] at this
def puR (s : ByteArray) : Nat → Nat → Int → Int × Option Int
  | 0, _, n => (n, none)
  | f + 1, k, n => if n ≥ 1152921504606846976 then (18446744073709551615, some 1) else puR s f (k + 1) (n * 16 + hexI (bt s k))
def allHex (s : ByteArray) : Bool := (List.range s.size).all fun j => isHex (bt s j)
theorem allHex_at {s : ByteArray} (h : allHex s = true) (k : Nat) (hk : k < s.size) : isHex (bt s k) = true := by
  unfold allHex at h
  rw [List.all_eq_true] at h
  exact h k (List.mem_range.2 hk)
/-- How the library's inner function tells its error. -/
def errI : Option Int → Value
  | none => .nilIface
  | some e => .iface 104 (.int .i64 (if e = 0 then 2 else 1))
def puS (s : ByteArray) : Int × Option Int := if s.size = 0 then (0, some 0) else puR s s.size 0 0
set_option maxHeartbeats 4000000 in
set_option maxRecDepth 100000 in
theorem inner_ParseUint (a0 : ByteArray) (w : World) (hx : allHex a0 = true) (hsz : a0.size ≤ 281474976710656) :
    Calls Tryd.prog 51 #[.string a0, .int .i64 16, .int .i64 64] w fun e w' => e = .returned (.tuple #[.int .u64 (puS a0).1, errI (puS a0).2]) ∧ Below w.heap.size w w' := by
  by_cases h0 : a0.size = 0
  · obtain rfl : a0 = ByteArray.empty := ByteArray.size_eq_zero_iff.1 h0
    clear hx
    go_enter Tryd.func51, Tryd.ntmps51
    go_wp2
    go_ret2
    exact ⟨rfl, Below.refl _ _⟩
  have hS : Hid (puS a0 = puR a0 a0.size 0 0) := Lib.hid (by unfold puS; rw [if_neg h0])
  have hne : a0.toList ≠ [] := by
    intro h
    apply h0
    have h2 := congrArg List.length h
    rw [ByteArray.toList_eq, data_length] at h2
    simpa using h2
  have hb0 : (a0.toList == []) = false := by simpa using hne
  have hxx := Lib.hid hx
  clear hx
  have hconv := Lib.run_convert_string_bytes (P := Tryd.prog) w 9 33 5 a0 Tryd.underlying9 Tryd.underlying33 Tryd.underlying5
  have hb := Lib.hid (below_bytes w 5 a0)
  have hcell := Lib.hid (fun j hj => Lib.bytesWorld_cell w 5 a0 j hj)
  generalize Lib.bytesWorld w 5 a0 = w1 at *
  generalize grownCap w a0.size 0 5 = cap at *
  have hmax : IntKind.u64.wrap (IntKind.u64.wrap 18446744073709551616 - 1) = 18446744073709551615 := by decide
  go_enter Tryd.func51, Tryd.ntmps51
  go_wp2
  go_loop [12, 13, 101] (fun us n i => ∃ (k : Nat) (x : Int), k ≤ a0.size ∧ us = .bool false ∧ i = .int .i64 k ∧ n = .int .u64 x ∧ Hid (0 ≤ x ∧ x < 18446744073709551616) ∧ Hid (puS a0 = puR a0 (a0.size - k) k x)) (fun _ _ i => a0.size - (intOf i).toNat)
  case atStart => exact ⟨0, 0, Nat.zero_le _, rfl, rfl, rfl, Lib.hid ⟨by omega, by omega⟩, Lib.hid hS.out⟩
  case round =>
    obtain ⟨k, x, hk, rfl, rfl, rfl, hbd, hP⟩ := hrel
    by_cases hlt : k < a0.size
    · have hc : w1.cell? ⟨w.heap.size, k, none⟩ = some (.int .u8 (bt a0 k)) := by rw [hcell.out k hlt, bt_getD a0 k hlt]
      have hxk := allHex_at hxx.out k hlt
      have hI := hexI_bd hxk
      have hcs := isHex_cases hxk
      obtain ⟨x0, x1⟩ := hbd.out
      have hP2 : Hid (puS a0 = if x ≥ 1152921504606846976 then (18446744073709551615, some 1) else puR a0 (a0.size - (k + 1)) (k + 1) (x * 16 + hexI (bt a0 k))) := Lib.hid (by
        have := hP.out
        rwa [show a0.size - k = (a0.size - (k + 1)) + 1 by omega, puR] at this)
      clear hP hxk
      by_cases hbig : x ≥ 1152921504606846976
      · have hend : Hid (puS a0 = (18446744073709551615, some 1)) := Lib.hid (by rw [hP2.out, if_pos hbig])
        clear hP2
        rcases hcs with ⟨c1, c2⟩ | ⟨c1, c2⟩ | ⟨c1, c2⟩
        · have hh : Hid (hexI (bt a0 k) = bt a0 k - 48) := Lib.hid (by unfold hexI; rw [if_pos c2])
          have c95 : ¬ bt a0 k = 95 := by omega
          generalize bt a0 k = c at *
          clear hI
          go_wp2
          go_ret2
          rw [hend.out]
          exact ⟨rfl, hb.out⟩
        · have hh : Hid (hexI (bt a0 k) = bt a0 k - 55) := Lib.hid (by unfold hexI; rw [if_neg (by omega), if_pos c2])
          have hlow : Hid (∀ W : World, Calls Tryd.prog 74 #[.int .u8 (bt a0 k)] W fun e w' => e = .returned (.int .u8 (bt a0 k + 32)) ∧ w' = W) := Lib.hid (fun W => by have h := Tryd.internal_strconv_lower (bt a0 k) W; rwa [low_or _ ⟨c1, by omega⟩] at h)
          have c95 : ¬ bt a0 k = 95 := by omega
          generalize bt a0 k = c at *
          clear hI
          go_wp2_with (go_at_call 74; refine (hlow.out _).mono ?_; rintro e w' ⟨rfl, rfl⟩)
          go_ret2
          rw [hend.out]
          exact ⟨rfl, hb.out⟩
        · have hh : Hid (hexI (bt a0 k) = bt a0 k - 87) := Lib.hid (by unfold hexI; rw [if_neg (by omega), if_neg (by omega)])
          have hlow : Hid (∀ W : World, Calls Tryd.prog 74 #[.int .u8 (bt a0 k)] W fun e w' => e = .returned (.int .u8 (bt a0 k)) ∧ w' = W) := Lib.hid (fun W => by have h := Tryd.internal_strconv_lower (bt a0 k) W; rwa [or_small _ ⟨c1, c2⟩] at h)
          have c95 : ¬ bt a0 k = 95 := by omega
          generalize bt a0 k = c at *
          clear hI
          go_wp2_with (go_at_call 74; refine (hlow.out _).mono ?_; rintro e w' ⟨rfl, rfl⟩)
          go_ret2
          rw [hend.out]
          exact ⟨rfl, hb.out⟩
      · have hP3 : Hid (puS a0 = puR a0 (a0.size - (k + 1)) (k + 1) (x * 16 + hexI (bt a0 k))) := Lib.hid (by rw [hP2.out, if_neg hbig])
        clear hP2
        have hnx : x < 1152921504606846976 := by omega
        rcases hcs with ⟨c1, c2⟩ | ⟨c1, c2⟩ | ⟨c1, c2⟩
        · have hh : Hid (hexI (bt a0 k) = bt a0 k - 48) := Lib.hid (by unfold hexI; rw [if_pos c2])
          have c95 : ¬ bt a0 k = 95 := by omega
          generalize bt a0 k = c at *
          clear hbig hI
          go_wp2
          go_round
          case rel => exact ⟨k + 1, x * 16 + hexI c, by omega, rfl, by go_num, by first | (rw [hh.out]; done) | (rw [hh.out]; go_num), Lib.hid ⟨by rw [hh.out]; omega, by rw [hh.out]; omega⟩, Lib.hid hP3.out⟩
          case measure => simp [intOf]; omega
        · have hh : Hid (hexI (bt a0 k) = bt a0 k - 55) := Lib.hid (by unfold hexI; rw [if_neg (by omega), if_pos c2])
          have hlow : Hid (∀ W : World, Calls Tryd.prog 74 #[.int .u8 (bt a0 k)] W fun e w' => e = .returned (.int .u8 (bt a0 k + 32)) ∧ w' = W) := Lib.hid (fun W => by have h := Tryd.internal_strconv_lower (bt a0 k) W; rwa [low_or _ ⟨c1, by omega⟩] at h)
          have c95 : ¬ bt a0 k = 95 := by omega
          generalize bt a0 k = c at *
          clear hbig hI
          go_wp2_with (go_at_call 74; refine (hlow.out _).mono ?_; rintro e w' ⟨rfl, rfl⟩)
          go_round
          case rel => exact ⟨k + 1, x * 16 + hexI c, by omega, rfl, by go_num, by first | (rw [hh.out]; done) | (rw [hh.out]; go_num), Lib.hid ⟨by rw [hh.out]; omega, by rw [hh.out]; omega⟩, Lib.hid hP3.out⟩
          case measure => simp [intOf]; omega
        · have hh : Hid (hexI (bt a0 k) = bt a0 k - 87) := Lib.hid (by unfold hexI; rw [if_neg (by omega), if_neg (by omega)])
          have hlow : Hid (∀ W : World, Calls Tryd.prog 74 #[.int .u8 (bt a0 k)] W fun e w' => e = .returned (.int .u8 (bt a0 k)) ∧ w' = W) := Lib.hid (fun W => by have h := Tryd.internal_strconv_lower (bt a0 k) W; rwa [or_small _ ⟨c1, c2⟩] at h)
          have c95 : ¬ bt a0 k = 95 := by omega
          generalize bt a0 k = c at *
          clear hbig hI
          go_wp2_with (go_at_call 74; refine (hlow.out _).mono ?_; rintro e w' ⟨rfl, rfl⟩)
          go_round
          case rel => exact ⟨k + 1, x * 16 + hexI c, by omega, rfl, by go_num, by first | (rw [hh.out]; done) | (rw [hh.out]; go_num), Lib.hid ⟨by rw [hh.out]; omega, by rw [hh.out]; omega⟩, Lib.hid hP3.out⟩
          case measure => simp [intOf]; omega
    · obtain rfl : k = a0.size := by omega
      have hend : Hid (puS a0 = (x, none)) := Lib.hid (by
        have := hP.out
        rwa [Nat.sub_self, puR] at this)
      clear hP
      go_wp2
      go_ret2
      rw [hend.out]
      exact ⟨rfl, hb.out⟩
def strconv_ParseUint.f (a0 : ByteArray) (a1 a2 : Int) : Option (Int × Option Int) := if a1 = 16 ∧ a2 = 64 ∧ allHex a0 = true ∧ a0.size ≤ 281474976710656 then some (puS a0) else none
theorem puR_err (s : ByteArray) : ∀ (f k : Nat) (n : Int), (puR s f k n).2 = none ∨ puR s f k n = (18446744073709551615, some 1)
  | 0, _, _ => .inl rfl
  | f + 1, k, n => by
    unfold puR
    split
    · exact .inr rfl
    · exact puR_err s f _ _
theorem puS_err (s : ByteArray) : (puS s).2 = none ∨ puS s = (18446744073709551615, some 1) ∨ puS s = (0, some 0) := by
  unfold puS
  split
  · exact .inr (.inr rfl)
  · rcases puR_err s s.size 0 0 with h | h
    · exact .inl h
    · exact .inr (.inl h)
set_option maxHeartbeats 1000000 in
theorem strconv_ParseUint.calls (a0 : ByteArray) (a1 a2 : Int) (r1 : Int) (r2 : Option Int) (w : World) (hG : Glob w) (h : strconv_ParseUint.f a0 a1 a2 = some (r1, r2)) :
    Calls Tryd.prog 27 #[.string a0, .int .i64 a1, .int .i64 a2] w fun e w' => ∃ pv, ErrIs r2 pv ∧ e = .returned (.tuple #[.int .u64 r1, pv]) ∧ Below w.heap.size w w' := by
  unfold strconv_ParseUint.f at h
  split at h
  case isFalse => exact absurd h (by simp)
  rename_i hc
  obtain ⟨rfl, rfl, hx, hsz⟩ := hc
  have hi := inner_ParseUint a0 w hx hsz
  rw [Option.some.inj h] at hi
  have hI := Lib.hid hi
  have hcase := puS_err a0
  rw [Option.some.inj h] at hcase
  clear hi h hx
  rcases hcase with hn | hr | hr
  · have hn' : r2 = none := hn
    subst hn'
    have hI2 : Hid (Calls Tryd.prog 51 #[.string a0, .int .i64 16, .int .i64 64] w fun e w' => e = .returned (.tuple #[.int .u64 r1, .nilIface]) ∧ Below w.heap.size w w') := Lib.hid hI.out
    clear hI hn
    go_enter Tryd.func27, Tryd.ntmps27
    go_wp2_with (go_at_call 51; refine hI2.out.mono ?_; rintro e w' ⟨rfl, hb⟩; have hb := Lib.hid hb)
    go_ret2
    exact ⟨_, rfl, rfl, hb.out⟩
  · obtain ⟨rfl, rfl⟩ := Prod.mk.inj hr
    have hI2 : Hid (Calls Tryd.prog 51 #[.string a0, .int .i64 16, .int .i64 64] w fun e w' => e = .returned (.tuple #[.int .u64 18446744073709551615, .iface 104 (.int .i64 1)]) ∧ Below w.heap.size w w') := Lib.hid hI.out
    have hT : Hid (∀ W : World, Below w.heap.size w W → Calls Tryd.prog 52 #[.string (⟨#[80, 97, 114, 115, 101, 85, 105, 110, 116]⟩ : ByteArray), .string a0, .int .i64 16, .int .i64 64, .iface 104 (.int .i64 1)] W fun e w' => (∃ t p, e = .returned (.iface t p)) ∧ Below W.heap.size W w') := Lib.hid (fun W hW => by
      obtain ⟨t, p, hv⟩ := (hG.below hW).rng
      have hc0 : W.cell? ⟨3, 0, none⟩ = some (.iface t p) := by have h0 := World.var?_cell grng hv 0; simpa using h0
      refine (Tryd.strconv_toError_range _ a0 16 64 _ W hsz hc0 (.inr ⟨t, p, rfl⟩)).mono ?_
      rintro e w' ⟨N, rfl, _, _, hb⟩
      exact ⟨⟨_, _, rfl⟩, hb⟩)
    clear hI hr
    go_enter Tryd.func27, Tryd.ntmps27
    go_wp2_with (first | (go_at_call 51; refine hI2.out.mono ?_; rintro e w' ⟨rfl, hb⟩; have hb := Lib.hid hb) | (go_at_call 52; refine (hT.out _ hb.out).mono ?_; rintro e w'' ⟨⟨t, p, rfl⟩, hb2⟩; have hb2 := Lib.hid hb2))
    go_ret2
    exact ⟨_, ⟨_, _, rfl⟩, rfl, below_step hb.out hb2.out⟩
  · obtain ⟨rfl, rfl⟩ := Prod.mk.inj hr
    have hI2 : Hid (Calls Tryd.prog 51 #[.string a0, .int .i64 16, .int .i64 64] w fun e w' => e = .returned (.tuple #[.int .u64 0, .iface 104 (.int .i64 2)]) ∧ Below w.heap.size w w') := Lib.hid hI.out
    have hT : Hid (∀ W : World, Below w.heap.size w W → Calls Tryd.prog 52 #[.string (⟨#[80, 97, 114, 115, 101, 85, 105, 110, 116]⟩ : ByteArray), .string a0, .int .i64 16, .int .i64 64, .iface 104 (.int .i64 2)] W fun e w' => (∃ t p, e = .returned (.iface t p)) ∧ Below W.heap.size W w') := Lib.hid (fun W hW => by
      obtain ⟨t, p, hv⟩ := (hG.below hW).syn
      have hc0 : W.cell? ⟨2, 0, none⟩ = some (.iface t p) := by have h0 := World.var?_cell gsyn hv 0; simpa using h0
      refine (Tryd.strconv_toError_syntax _ a0 16 64 _ W hsz hc0 (.inr ⟨t, p, rfl⟩)).mono ?_
      rintro e w' ⟨N, rfl, _, _, hb⟩
      exact ⟨⟨_, _, rfl⟩, hb⟩)
    clear hI hr
    go_enter Tryd.func27, Tryd.ntmps27
    go_wp2_with (first | (go_at_call 51; refine hI2.out.mono ?_; rintro e w' ⟨rfl, hb⟩; have hb := Lib.hid hb) | (go_at_call 52; refine (hT.out _ hb.out).mono ?_; rintro e w'' ⟨⟨t, p, rfl⟩, hb2⟩; have hb2 := Lib.hid hb2))
    go_ret2
    exact ⟨_, ⟨_, _, rfl⟩, rfl, below_step hb.out hb2.out⟩
end Go.Proofs.YteonhdfjfjpbjaaDoor.O

/- Px9 -/
namespace Go.Proofs.YteonhdfjfjpbjaaDoor.P
open Go.Proofs.YteonhdfjfjpbjaaDoor.B
open Go.RowKit Go.Proofs.YteonhdfjfjpbjaaDoorW.PrintWords Go.Proofs.YteonhdfjfjpbjaaDoorW.PrintLast Go.Proofs.YteonhdfjfjpbjaaDoorW.PrintMore
attribute [local go_sem] str_leq str_gtr str_geq max2_int min2_int max_two min_two max_three min_three max_four min_four   -- for this text's walks alone
set_option linter.unusedVariables false
set_option linter.unusedSimpArgs false

open Go.Proofs.YteonhdfjfjpbjaaDoor.O
/-! ### chunk_size: function 12 -/
def chunk_size.f (k : Nat) (a0 : ByteArray) : Option (Int × Bool) := (strings_TrimLeft.f a0 (⟨#[48, 49, 50, 51, 52, 53, 54, 55, 56, 57, 97, 98, 99, 100, 101, 102, 65, 66, 67, 68, 69, 70]⟩ : ByteArray)).bind fun t131 => (if 0 ≤ (wrap64 ((a0.size : Int) - (t131.size : Int))) then (if (wrap64 ((a0.size : Int) - (t131.size : Int))) ≤ (a0.size : Int) then (if 0 ≤ ((a0.extract 0 ((wrap64 ((a0.size : Int) - (t131.size : Int))) : Int).toNat).size : Int) then (if ((a0.extract 0 ((wrap64 ((a0.size : Int) - (t131.size : Int))) : Int).toNat).size : Int) ≤ (a0.size : Int) then ((media_Text_Params.f k (a0.extract (((a0.extract 0 ((wrap64 ((a0.size : Int) - (t131.size : Int))) : Int).toNat).size : Int) : Int).toNat a0.size)).bind fun bt133 => ((strconv_ParseUint.f (a0.extract 0 ((wrap64 ((a0.size : Int) - (t131.size : Int))) : Int).toNat) 16 64).bind fun bt138 => (if bt138.2.isNone = true then (if bt133.2.1 = true then (some (wrap64 (bt138.1), decide (((a0.extract 0 ((wrap64 ((a0.size : Int) - (t131.size : Int))) : Int).toNat).size : Int) ≤ 8))) else (some (wrap64 (bt138.1), false))) else (if bt133.2.1 = true then (some (wrap64 (bt138.1), false)) else (some (wrap64 (bt138.1), false)))))) else (none)) else (none)) else (none)) else (none))
theorem chunk_size.mono : ∀ a0 k, LeO (chunk_size.f k a0) (chunk_size.f (k + 1) a0) := by
  intro a0 k
  unfold chunk_size.f
  repeat' first
      | (with_reducible exact media_Text_Params.mono _ _)
      | (with_reducible exact LeO.refl _)
      | (with_reducible exact LeO.none _)
      | (with_reducible refine LeO.ite ?_ ?_)
      | (with_reducible refine LeO.bind ?_ (fun _ => ?_))
      | exact media_Text_Params.mono _ _
      | exact LeO.none _
      | refine LeO.ite ?_ ?_
      | refine LeO.bind ?_ (fun _ => ?_)
set_option maxHeartbeats 8000000 in
set_option maxRecDepth 100000 in
theorem chunk_size.calls (k : Nat) (a0 : ByteArray) (r1 : Int) (r2 : Bool) (w : World) (hG : Glob w) (h : chunk_size.f k a0 = some (r1, r2)) :
    Calls Tryd.prog 12 #[.string a0] w fun e w' => e = .returned (.tuple #[.int .i64 r1, .bool r2]) ∧ Below w.heap.size w w' := by
  have hu43 := Tryd.underlying43
  have HB := Aside0.mk (Below.refl w.heap.size w)
  have hGA := Aside0.mk hG
  clear hG
  have H : ((strings_TrimLeft.f a0 (⟨#[48, 49, 50, 51, 52, 53, 54, 55, 56, 57, 97, 98, 99, 100, 101, 102, 65, 66, 67, 68, 69, 70]⟩ : ByteArray)).bind fun t131 => (if 0 ≤ (wrap64 ((a0.size : Int) - (t131.size : Int))) then (if (wrap64 ((a0.size : Int) - (t131.size : Int))) ≤ (a0.size : Int) then (if 0 ≤ ((a0.extract 0 ((wrap64 ((a0.size : Int) - (t131.size : Int))) : Int).toNat).size : Int) then (if ((a0.extract 0 ((wrap64 ((a0.size : Int) - (t131.size : Int))) : Int).toNat).size : Int) ≤ (a0.size : Int) then ((media_Text_Params.f k (a0.extract (((a0.extract 0 ((wrap64 ((a0.size : Int) - (t131.size : Int))) : Int).toNat).size : Int) : Int).toNat a0.size)).bind fun bt133 => ((strconv_ParseUint.f (a0.extract 0 ((wrap64 ((a0.size : Int) - (t131.size : Int))) : Int).toNat) 16 64).bind fun bt138 => (if bt138.2.isNone = true then (if bt133.2.1 = true then (some (wrap64 (bt138.1), decide (((a0.extract 0 ((wrap64 ((a0.size : Int) - (t131.size : Int))) : Int).toNat).size : Int) ≤ 8))) else (some (wrap64 (bt138.1), false))) else (if bt133.2.1 = true then (some (wrap64 (bt138.1), false)) else (some (wrap64 (bt138.1), false)))))) else (none)) else (none)) else (none)) else (none))) = some (r1, r2) := h
  clear h
  replace H := Option.bind_eq_some_iff.mp H
  obtain ⟨t131, A20, H⟩ := H
  replace H : (if 0 ≤ (wrap64 ((a0.size : Int) - (t131.size : Int))) then (if (wrap64 ((a0.size : Int) - (t131.size : Int))) ≤ (a0.size : Int) then (if 0 ≤ ((a0.extract 0 ((wrap64 ((a0.size : Int) - (t131.size : Int))) : Int).toNat).size : Int) then (if ((a0.extract 0 ((wrap64 ((a0.size : Int) - (t131.size : Int))) : Int).toNat).size : Int) ≤ (a0.size : Int) then ((media_Text_Params.f k (a0.extract (((a0.extract 0 ((wrap64 ((a0.size : Int) - (t131.size : Int))) : Int).toNat).size : Int) : Int).toNat a0.size)).bind fun bt133 => ((strconv_ParseUint.f (a0.extract 0 ((wrap64 ((a0.size : Int) - (t131.size : Int))) : Int).toNat) 16 64).bind fun bt138 => (if bt138.2.isNone = true then (if bt133.2.1 = true then (some (wrap64 (bt138.1), decide (((a0.extract 0 ((wrap64 ((a0.size : Int) - (t131.size : Int))) : Int).toNat).size : Int) ≤ 8))) else (some (wrap64 (bt138.1), false))) else (if bt133.2.1 = true then (some (wrap64 (bt138.1), false)) else (some (wrap64 (bt138.1), false)))))) else (none)) else (none)) else (none)) else (none)) = some (r1, r2) := H
  have A2 := Aside0.mk A20
  clear A20
  obtain ⟨ji3, hji3⟩ : ∃ j_ : Int, (wrap64 ((a0.size : Int) - (t131.size : Int))) = j_ := ⟨_, rfl⟩
  replace H : (if 0 ≤ (ji3) then (if (ji3) ≤ (a0.size : Int) then (if 0 ≤ ((a0.extract 0 ((ji3) : Int).toNat).size : Int) then (if ((a0.extract 0 ((ji3) : Int).toNat).size : Int) ≤ (a0.size : Int) then ((media_Text_Params.f k (a0.extract (((a0.extract 0 ((ji3) : Int).toNat).size : Int) : Int).toNat a0.size)).bind fun bt133 => ((strconv_ParseUint.f (a0.extract 0 ((ji3) : Int).toNat) 16 64).bind fun bt138 => (if bt138.2.isNone = true then (if bt133.2.1 = true then (some (wrap64 (bt138.1), decide (((a0.extract 0 ((ji3) : Int).toNat).size : Int) ≤ 8))) else (some (wrap64 (bt138.1), false))) else (if bt133.2.1 = true then (some (wrap64 (bt138.1), false)) else (some (wrap64 (bt138.1), false)))))) else (none)) else (none)) else (none)) else (none)) = some (r1, r2) := by first | (rw [hji3] at H; exact H) | (simp only [hji3] at H ⊢; exact H)
  (try rw [hji3] at A2)
  have hji3w : (IntKind.i64.wrap ((a0.size : Int) - (t131.size : Int))) = ji3 := (i64_w _).trans hji3
  by_cases c4 : 0 ≤ (ji3)
  · rw [if_pos c4] at H
    have c4b0 := eq_true c4
    have c4b1 : decide (0 ≤ (ji3)) = true := decide_eq_true c4
    clear c4
    by_cases c5 : (ji3) ≤ (a0.size : Int)
    · rw [if_pos c5] at H
      have c5b0 := eq_true c5
      have c5b1 : decide ((ji3) ≤ (a0.size : Int)) = true := decide_eq_true c5
      clear c5
      by_cases c6 : 0 ≤ ((a0.extract 0 ((ji3) : Int).toNat).size : Int)
      · rw [if_pos c6] at H
        have c6b0 := eq_true c6
        have c6b1 : decide (0 ≤ ((a0.extract 0 ((ji3) : Int).toNat).size : Int)) = true := decide_eq_true c6
        clear c6
        by_cases c7 : ((a0.extract 0 ((ji3) : Int).toNat).size : Int) ≤ (a0.size : Int)
        · rw [if_pos c7] at H
          have c7b0 := eq_true c7
          have c7b1 : decide (((a0.extract 0 ((ji3) : Int).toNat).size : Int) ≤ (a0.size : Int)) = true := decide_eq_true c7
          clear c7
          replace H := Option.bind_eq_some_iff.mp H
          obtain ⟨⟨t133, t136, t137⟩, A80, H⟩ := H
          replace H : ((strconv_ParseUint.f (a0.extract 0 ((ji3) : Int).toNat) 16 64).bind fun bt138 => (if bt138.2.isNone = true then (if t136 = true then (some (wrap64 (bt138.1), decide (((a0.extract 0 ((ji3) : Int).toNat).size : Int) ≤ 8))) else (some (wrap64 (bt138.1), false))) else (if t136 = true then (some (wrap64 (bt138.1), false)) else (some (wrap64 (bt138.1), false))))) = some (r1, r2) := H
          have e80 : (((a0.extract 0 ((ji3) : Int).toNat).size : Int)).toNat = (max ji3 0).toNat := by have p1 := of_eq_true c4b0; have p2 := of_eq_true c5b0; rw [ByteArray.size_extract]; omega
          rw [e80] at A80
          have e81 : ((a0.extract 0 ((ji3) : Int).toNat).size : Int) = max ji3 0 := by have p1 := of_eq_true c4b0; have p2 := of_eq_true c5b0; rw [ByteArray.size_extract]; omega
          have e81 := Aside0.mk e81
          have e82 : (max ji3 0 ≤ (a0.size : Int)) = True := eq_true (by have p1 := of_eq_true c4b0; have p2 := of_eq_true c5b0; omega)
          have e83 : decide (max ji3 0 ≤ (a0.size : Int)) = true := decide_eq_true (of_eq_true e82)
          have A8 := Aside0.mk A80
          clear A80
          replace H := Option.bind_eq_some_iff.mp H
          obtain ⟨⟨t138, t139⟩, A90, H⟩ := H
          replace H : (if t139.isNone = true then (if t136 = true then (some (wrap64 (t138), decide (((a0.extract 0 ((ji3) : Int).toNat).size : Int) ≤ 8))) else (some (wrap64 (t138), false))) else (if t136 = true then (some (wrap64 (t138), false)) else (some (wrap64 (t138), false)))) = some (r1, r2) := H
          have A9 := Aside0.mk A90
          clear A90
          rcases t139 with _ | q140
          · have H1 : (if t136 = true then (some (wrap64 (t138), decide (((a0.extract 0 ((ji3) : Int).toNat).size : Int) ≤ 8))) else (some (wrap64 (t138), false))) = some (r1, r2) := by rw [if_pos (show (none : Option Int).isNone = true by rfl)] at H; exact H
            clear H
            have H := H1
            clear H1
            try simp only [errW_none, errW_some]
            by_cases c10 : t136 = true
            · subst c10
              have H1 : (some (wrap64 (t138), decide (((a0.extract 0 ((ji3) : Int).toNat).size : Int) ≤ 8))) = some (r1, r2) := by rw [if_pos rfl] at H; exact H
              clear H
              have H := H1
              clear H1
              simp only [Option.some.injEq, Prod.mk.injEq] at H
              obtain ⟨rfl, rfl⟩ := H
              go_enter Tryd.func12, Tryd.ntmps12
              go_wp2_with (first | ((with_reducible refine gate_callee (f := 25) rfl ?_); refine goesL_ (some 14) rfl rfl Tryd.func25 (by kernel_rfl) rfl #[.string a0, .string (⟨#[48, 49, 50, 51, 52, 53, 54, 55, 56, 57, 97, 98, 99, 100, 101, 102, 65, 66, 67, 68, 69, 70]⟩ : ByteArray)] rfl (by (try simp only [List.map_toArray, List.map_cons, List.map_nil]); first | done | rfl | (simp only [List.length_drop, List.length_take]; rfl)) ?_; (with_reducible refine (strings_TrimLeft.calls a0 (⟨#[48, 49, 50, 51, 52, 53, 54, 55, 56, 57, 97, 98, 99, 100, 101, 102, 65, 66, 67, 68, 69, 70]⟩ : ByteArray) t131 _ A2.out).mono ?_); rintro e w11 ⟨rfl, hb⟩; refine ⟨_, rfl, ?_⟩; have n0_ := Aside0.mk (below_step (by repeat (first | (with_reducible first | exact HB.out | apply below_alloc | apply pw_below_drewN | apply below_drew1) | exact HB.out)) hb); clear HB; have HB := n0_; clear n0_; (try clear hb); (try clear hb2); (try clear hk); (try clear hi)) | ((with_reducible refine gate_dst (N := 5) rfl ?_); (try (refine gate_guard (by rfl) ?_; dsimp only)); refine box_event ?hg (N := 5) ?hd (cs := #[.string (⟨#[]⟩ : ByteArray)]) (t := 58) ?hr ?_; (case hd => rfl); (case hg => rfl); (case hr => first | (go_simp; done) | (go_simp; rfl)); intro gb132 hg w12 hbox hb; have n0_ := Aside0.mk (below_step (by repeat (first | (with_reducible first | exact HB.out | apply below_alloc | apply pw_below_drewN | apply below_drew1) | exact HB.out)) hb); have n1_ := Aside0.mk ((by rw [hg]; exact (below_size (by repeat (first | (with_reducible first | exact HB.out | apply below_alloc | apply pw_below_drewN | apply below_drew1) | exact HB.out))) : w.heap.size ≤ gb132)); have n2_ := Aside0.mk ((by rw [hg]; exact (below_size (by repeat (first | (with_reducible first | exact HB.out | apply below_alloc | apply pw_below_drewN | apply below_drew1) | exact HB.out))) : w.heap.size ≤ gb132)); have n3_ := Aside0.mk ((show IsS58 w w12 gb132 (⟨#[]⟩ : ByteArray) from ⟨hbox, (by rw [hg]; exact (below_size (by repeat (first | (with_reducible first | exact HB.out | apply below_alloc | apply pw_below_drewN | apply below_drew1) | exact HB.out))))⟩)); clear HB; have HB := n0_; have GW132 := n1_; have GE132 := n2_; have HI132 := n3_; clear n0_ n1_ n2_ n3_; clear hb hbox hg; obtain ⟨HGz13, hgz13⟩ := HI132.out; have hcz13_0 := cellS58_0 HGz13; have hfz13_0 := blk_frozen HGz13 0; clear HGz13 hgz13) | ((with_reducible refine gate_callee (f := 26) rfl ?_); refine goesL_ (some 23) rfl rfl Tryd.func26 (by kernel_rfl) rfl #[.pointer (some ⟨gb132, 0, none⟩)] rfl (by (try simp only [List.map_toArray, List.map_cons, List.map_nil]); first | done | rfl | (simp only [List.length_drop, List.length_take]; rfl)) ?_; (with_reducible refine (media_Text_Params.calls k gb132 (a0.extract (max ji3 0).toNat a0.size) t133 true t137 w _ ?side1 ?side2 A8.out).mono ?_); (case side1 => repeat (first | (with_reducible first | exact HI132.out | apply IsS58.alloc | apply IsS58.drewN | apply IsS58.drew | apply IsS58.set_0) | exact HI132.out)); (case side2 => repeat (first | (with_reducible first | exact HB.out | apply below_alloc | apply pw_below_drewN | apply below_drew1 | refine below_set ?_ (IsS58.ge HI132.out)) | exact HB.out)); rintro e w14 ⟨v134, rfl, ho0, hi, hb, hk⟩; refine ⟨_, rfl, ?_⟩; have n0_ := Aside0.mk (Kd.R_lower ho0 (below_size (by repeat (first | (with_reducible first | exact HB.out | apply below_alloc | apply pw_below_drewN | apply below_drew1 | refine below_set ?_ (IsS58.ge HI132.out)) | exact HB.out)))); have n1_ := Aside0.mk (hb); have n2_ := Aside0.mk (hi); clear HB; clear HI132; have HO135 := n0_; have HB := n1_; have HI132 := n2_; clear n0_ n1_ n2_; (try clear hb); (try clear hb2); (try clear hk); (try clear hi); (try clear ho0)) | ((with_reducible refine gate_callee (f := 27) rfl ?_); refine goesL_ (some 28) rfl rfl Tryd.func27 (by kernel_rfl) rfl #[.string (a0.extract 0 ((ji3) : Int).toNat), .int .i64 16, .int .i64 64] rfl (by (try simp only [List.map_toArray, List.map_cons, List.map_nil]); first | done | (simp only [hji3]; rfl) | rfl | (simp only [List.length_drop, List.length_take]; rfl)) ?_; (with_reducible refine (strconv_ParseUint.calls (a0.extract 0 ((ji3) : Int).toNat) 16 64 t138 none _ ?side1 A9.out).mono ?_); (case side1 => exact Glob.below hGA.out (by repeat (first | (with_reducible first | exact HB.out | apply below_alloc | apply pw_below_drewN | apply below_drew1 | refine below_set ?_ (IsS58.ge HI132.out)) | exact HB.out))); rintro e w15 ⟨pv16, hpv16, rfl, hb⟩; refine ⟨_, rfl, ?_⟩; obtain rfl := ErrIs.none_ hpv16; have n0_ := Aside0.mk (Kd.R_below (by (with_reducible repeat (first | apply Kd.R_alloc | apply Kd.R_drewN | apply Kd.R_drew)); exact HO135.out) hb); have n1_ := Aside0.mk (IsS58.below (by repeat (first | (with_reducible first | exact HI132.out | apply IsS58.alloc | apply IsS58.drewN | apply IsS58.drew | apply IsS58.set_0) | exact HI132.out)) hb); have n2_ := Aside0.mk (below_step (by repeat (first | (with_reducible first | exact HB.out | apply below_alloc | apply pw_below_drewN | apply below_drew1 | refine below_set ?_ (IsS58.ge HI132.out)) | exact HB.out)) hb); clear HO135; clear HI132; clear HB; have HO135 := n0_; have HI132 := n1_; have HB := n2_; clear n0_ n1_ n2_; (try clear hb); (try clear hb2); (try clear hk); (try clear hi); (try simp only [errW_none, errW_some])))
              go_ret2
              exact ⟨by first | rfl | (rw [e81.out]; rfl) | (rw [e81.out]; simp; done) | (simp [errW_none, errW_some, bne_nil_] <;> rfl) | (simp only [← hji3]; first | rfl | (simp [errW_none, errW_some, bne_nil_] <;> rfl)) | (simp [*, errW_none, errW_some] <;> rfl), by repeat (first | (with_reducible first | exact HB.out | apply below_alloc | apply pw_below_drewN | apply below_drew1 | refine below_set ?_ (IsS58.ge HI132.out)) | exact HB.out)⟩
            · replace c10 := Bool.eq_false_iff.mpr c10
              subst c10
              have H1 : (some (wrap64 (t138), false)) = some (r1, r2) := by rw [if_neg (show ¬ (false = true) by decide)] at H; exact H
              clear H
              have H := H1
              clear H1
              simp only [Option.some.injEq, Prod.mk.injEq] at H
              obtain ⟨rfl, rfl⟩ := H
              go_enter Tryd.func12, Tryd.ntmps12
              go_wp2_with (first | ((with_reducible refine gate_callee (f := 25) rfl ?_); refine goesL_ (some 14) rfl rfl Tryd.func25 (by kernel_rfl) rfl #[.string a0, .string (⟨#[48, 49, 50, 51, 52, 53, 54, 55, 56, 57, 97, 98, 99, 100, 101, 102, 65, 66, 67, 68, 69, 70]⟩ : ByteArray)] rfl (by (try simp only [List.map_toArray, List.map_cons, List.map_nil]); first | done | rfl | (simp only [List.length_drop, List.length_take]; rfl)) ?_; (with_reducible refine (strings_TrimLeft.calls a0 (⟨#[48, 49, 50, 51, 52, 53, 54, 55, 56, 57, 97, 98, 99, 100, 101, 102, 65, 66, 67, 68, 69, 70]⟩ : ByteArray) t131 _ A2.out).mono ?_); rintro e w17 ⟨rfl, hb⟩; refine ⟨_, rfl, ?_⟩; have n0_ := Aside0.mk (below_step (by repeat (first | (with_reducible first | exact HB.out | apply below_alloc | apply pw_below_drewN | apply below_drew1) | exact HB.out)) hb); clear HB; have HB := n0_; clear n0_; (try clear hb); (try clear hb2); (try clear hk); (try clear hi)) | ((with_reducible refine gate_dst (N := 5) rfl ?_); (try (refine gate_guard (by rfl) ?_; dsimp only)); refine box_event ?hg (N := 5) ?hd (cs := #[.string (⟨#[]⟩ : ByteArray)]) (t := 58) ?hr ?_; (case hd => rfl); (case hg => rfl); (case hr => first | (go_simp; done) | (go_simp; rfl)); intro gb132 hg w18 hbox hb; have n0_ := Aside0.mk (below_step (by repeat (first | (with_reducible first | exact HB.out | apply below_alloc | apply pw_below_drewN | apply below_drew1) | exact HB.out)) hb); have n1_ := Aside0.mk ((by rw [hg]; exact (below_size (by repeat (first | (with_reducible first | exact HB.out | apply below_alloc | apply pw_below_drewN | apply below_drew1) | exact HB.out))) : w.heap.size ≤ gb132)); have n2_ := Aside0.mk ((by rw [hg]; exact (below_size (by repeat (first | (with_reducible first | exact HB.out | apply below_alloc | apply pw_below_drewN | apply below_drew1) | exact HB.out))) : w.heap.size ≤ gb132)); have n3_ := Aside0.mk ((show IsS58 w w18 gb132 (⟨#[]⟩ : ByteArray) from ⟨hbox, (by rw [hg]; exact (below_size (by repeat (first | (with_reducible first | exact HB.out | apply below_alloc | apply pw_below_drewN | apply below_drew1) | exact HB.out))))⟩)); clear HB; have HB := n0_; have GW132 := n1_; have GE132 := n2_; have HI132 := n3_; clear n0_ n1_ n2_ n3_; clear hb hbox hg; obtain ⟨HGz19, hgz19⟩ := HI132.out; have hcz19_0 := cellS58_0 HGz19; have hfz19_0 := blk_frozen HGz19 0; clear HGz19 hgz19) | ((with_reducible refine gate_callee (f := 26) rfl ?_); refine goesL_ (some 23) rfl rfl Tryd.func26 (by kernel_rfl) rfl #[.pointer (some ⟨gb132, 0, none⟩)] rfl (by (try simp only [List.map_toArray, List.map_cons, List.map_nil]); first | done | rfl | (simp only [List.length_drop, List.length_take]; rfl)) ?_; (with_reducible refine (media_Text_Params.calls k gb132 (a0.extract (max ji3 0).toNat a0.size) t133 false t137 w _ ?side1 ?side2 A8.out).mono ?_); (case side1 => repeat (first | (with_reducible first | exact HI132.out | apply IsS58.alloc | apply IsS58.drewN | apply IsS58.drew | apply IsS58.set_0) | exact HI132.out)); (case side2 => repeat (first | (with_reducible first | exact HB.out | apply below_alloc | apply pw_below_drewN | apply below_drew1 | refine below_set ?_ (IsS58.ge HI132.out)) | exact HB.out)); rintro e w20 ⟨v134, rfl, ho0, hi, hb, hk⟩; refine ⟨_, rfl, ?_⟩; have n0_ := Aside0.mk (Kd.R_lower ho0 (below_size (by repeat (first | (with_reducible first | exact HB.out | apply below_alloc | apply pw_below_drewN | apply below_drew1 | refine below_set ?_ (IsS58.ge HI132.out)) | exact HB.out)))); have n1_ := Aside0.mk (hb); have n2_ := Aside0.mk (hi); clear HB; clear HI132; have HO135 := n0_; have HB := n1_; have HI132 := n2_; clear n0_ n1_ n2_; (try clear hb); (try clear hb2); (try clear hk); (try clear hi); (try clear ho0)) | ((with_reducible refine gate_callee (f := 27) rfl ?_); refine goesL_ (some 28) rfl rfl Tryd.func27 (by kernel_rfl) rfl #[.string (a0.extract 0 ((ji3) : Int).toNat), .int .i64 16, .int .i64 64] rfl (by (try simp only [List.map_toArray, List.map_cons, List.map_nil]); first | done | (simp only [hji3]; rfl) | rfl | (simp only [List.length_drop, List.length_take]; rfl)) ?_; (with_reducible refine (strconv_ParseUint.calls (a0.extract 0 ((ji3) : Int).toNat) 16 64 t138 none _ ?side1 A9.out).mono ?_); (case side1 => exact Glob.below hGA.out (by repeat (first | (with_reducible first | exact HB.out | apply below_alloc | apply pw_below_drewN | apply below_drew1 | refine below_set ?_ (IsS58.ge HI132.out)) | exact HB.out))); rintro e w21 ⟨pv22, hpv22, rfl, hb⟩; refine ⟨_, rfl, ?_⟩; obtain rfl := ErrIs.none_ hpv22; have n0_ := Aside0.mk (Kd.R_below (by (with_reducible repeat (first | apply Kd.R_alloc | apply Kd.R_drewN | apply Kd.R_drew)); exact HO135.out) hb); have n1_ := Aside0.mk (IsS58.below (by repeat (first | (with_reducible first | exact HI132.out | apply IsS58.alloc | apply IsS58.drewN | apply IsS58.drew | apply IsS58.set_0) | exact HI132.out)) hb); have n2_ := Aside0.mk (below_step (by repeat (first | (with_reducible first | exact HB.out | apply below_alloc | apply pw_below_drewN | apply below_drew1 | refine below_set ?_ (IsS58.ge HI132.out)) | exact HB.out)) hb); clear HO135; clear HI132; clear HB; have HO135 := n0_; have HI132 := n1_; have HB := n2_; clear n0_ n1_ n2_; (try clear hb); (try clear hb2); (try clear hk); (try clear hi); (try simp only [errW_none, errW_some])))
              go_ret2
              exact ⟨by first | rfl | (rw [e81.out]; rfl) | (rw [e81.out]; simp; done) | (simp [errW_none, errW_some, bne_nil_] <;> rfl) | (simp only [← hji3]; first | rfl | (simp [errW_none, errW_some, bne_nil_] <;> rfl)) | (simp [*, errW_none, errW_some] <;> rfl), by repeat (first | (with_reducible first | exact HB.out | apply below_alloc | apply pw_below_drewN | apply below_drew1 | refine below_set ?_ (IsS58.ge HI132.out)) | exact HB.out)⟩
          · have H1 : (if t136 = true then (some (wrap64 (t138), false)) else (some (wrap64 (t138), false))) = some (r1, r2) := by rw [if_neg (show ¬ (some q140).isNone = true by simp)] at H; exact H
            clear H
            have H := H1
            clear H1
            try simp only [errW_none, errW_some]
            by_cases c23 : t136 = true
            · subst c23
              have H1 : (some (wrap64 (t138), false)) = some (r1, r2) := by rw [if_pos rfl] at H; exact H
              clear H
              have H := H1
              clear H1
              simp only [Option.some.injEq, Prod.mk.injEq] at H
              obtain ⟨rfl, rfl⟩ := H
              go_enter Tryd.func12, Tryd.ntmps12
              go_wp2_with (first | ((with_reducible refine gate_callee (f := 25) rfl ?_); refine goesL_ (some 14) rfl rfl Tryd.func25 (by kernel_rfl) rfl #[.string a0, .string (⟨#[48, 49, 50, 51, 52, 53, 54, 55, 56, 57, 97, 98, 99, 100, 101, 102, 65, 66, 67, 68, 69, 70]⟩ : ByteArray)] rfl (by (try simp only [List.map_toArray, List.map_cons, List.map_nil]); first | done | rfl | (simp only [List.length_drop, List.length_take]; rfl)) ?_; (with_reducible refine (strings_TrimLeft.calls a0 (⟨#[48, 49, 50, 51, 52, 53, 54, 55, 56, 57, 97, 98, 99, 100, 101, 102, 65, 66, 67, 68, 69, 70]⟩ : ByteArray) t131 _ A2.out).mono ?_); rintro e w24 ⟨rfl, hb⟩; refine ⟨_, rfl, ?_⟩; have n0_ := Aside0.mk (below_step (by repeat (first | (with_reducible first | exact HB.out | apply below_alloc | apply pw_below_drewN | apply below_drew1) | exact HB.out)) hb); clear HB; have HB := n0_; clear n0_; (try clear hb); (try clear hb2); (try clear hk); (try clear hi)) | ((with_reducible refine gate_dst (N := 5) rfl ?_); (try (refine gate_guard (by rfl) ?_; dsimp only)); refine box_event ?hg (N := 5) ?hd (cs := #[.string (⟨#[]⟩ : ByteArray)]) (t := 58) ?hr ?_; (case hd => rfl); (case hg => rfl); (case hr => first | (go_simp; done) | (go_simp; rfl)); intro gb132 hg w25 hbox hb; have n0_ := Aside0.mk (below_step (by repeat (first | (with_reducible first | exact HB.out | apply below_alloc | apply pw_below_drewN | apply below_drew1) | exact HB.out)) hb); have n1_ := Aside0.mk ((by rw [hg]; exact (below_size (by repeat (first | (with_reducible first | exact HB.out | apply below_alloc | apply pw_below_drewN | apply below_drew1) | exact HB.out))) : w.heap.size ≤ gb132)); have n2_ := Aside0.mk ((by rw [hg]; exact (below_size (by repeat (first | (with_reducible first | exact HB.out | apply below_alloc | apply pw_below_drewN | apply below_drew1) | exact HB.out))) : w.heap.size ≤ gb132)); have n3_ := Aside0.mk ((show IsS58 w w25 gb132 (⟨#[]⟩ : ByteArray) from ⟨hbox, (by rw [hg]; exact (below_size (by repeat (first | (with_reducible first | exact HB.out | apply below_alloc | apply pw_below_drewN | apply below_drew1) | exact HB.out))))⟩)); clear HB; have HB := n0_; have GW132 := n1_; have GE132 := n2_; have HI132 := n3_; clear n0_ n1_ n2_ n3_; clear hb hbox hg; obtain ⟨HGz26, hgz26⟩ := HI132.out; have hcz26_0 := cellS58_0 HGz26; have hfz26_0 := blk_frozen HGz26 0; clear HGz26 hgz26) | ((with_reducible refine gate_callee (f := 26) rfl ?_); refine goesL_ (some 23) rfl rfl Tryd.func26 (by kernel_rfl) rfl #[.pointer (some ⟨gb132, 0, none⟩)] rfl (by (try simp only [List.map_toArray, List.map_cons, List.map_nil]); first | done | rfl | (simp only [List.length_drop, List.length_take]; rfl)) ?_; (with_reducible refine (media_Text_Params.calls k gb132 (a0.extract (max ji3 0).toNat a0.size) t133 true t137 w _ ?side1 ?side2 A8.out).mono ?_); (case side1 => repeat (first | (with_reducible first | exact HI132.out | apply IsS58.alloc | apply IsS58.drewN | apply IsS58.drew | apply IsS58.set_0) | exact HI132.out)); (case side2 => repeat (first | (with_reducible first | exact HB.out | apply below_alloc | apply pw_below_drewN | apply below_drew1 | refine below_set ?_ (IsS58.ge HI132.out)) | exact HB.out)); rintro e w27 ⟨v134, rfl, ho0, hi, hb, hk⟩; refine ⟨_, rfl, ?_⟩; have n0_ := Aside0.mk (Kd.R_lower ho0 (below_size (by repeat (first | (with_reducible first | exact HB.out | apply below_alloc | apply pw_below_drewN | apply below_drew1 | refine below_set ?_ (IsS58.ge HI132.out)) | exact HB.out)))); have n1_ := Aside0.mk (hb); have n2_ := Aside0.mk (hi); clear HB; clear HI132; have HO135 := n0_; have HB := n1_; have HI132 := n2_; clear n0_ n1_ n2_; (try clear hb); (try clear hb2); (try clear hk); (try clear hi); (try clear ho0)) | ((with_reducible refine gate_callee (f := 27) rfl ?_); refine goesL_ (some 28) rfl rfl Tryd.func27 (by kernel_rfl) rfl #[.string (a0.extract 0 ((ji3) : Int).toNat), .int .i64 16, .int .i64 64] rfl (by (try simp only [List.map_toArray, List.map_cons, List.map_nil]); first | done | (simp only [hji3]; rfl) | rfl | (simp only [List.length_drop, List.length_take]; rfl)) ?_; (with_reducible refine (strconv_ParseUint.calls (a0.extract 0 ((ji3) : Int).toNat) 16 64 t138 (some q140) _ ?side1 A9.out).mono ?_); (case side1 => exact Glob.below hGA.out (by repeat (first | (with_reducible first | exact HB.out | apply below_alloc | apply pw_below_drewN | apply below_drew1 | refine below_set ?_ (IsS58.ge HI132.out)) | exact HB.out))); rintro e w28 ⟨pv29, hpv29, rfl, hb⟩; refine ⟨_, rfl, ?_⟩; obtain ⟨tpv29, ppv29, rfl⟩ := ErrIs.some_ hpv29; have n0_ := Aside0.mk (Kd.R_below (by (with_reducible repeat (first | apply Kd.R_alloc | apply Kd.R_drewN | apply Kd.R_drew)); exact HO135.out) hb); have n1_ := Aside0.mk (IsS58.below (by repeat (first | (with_reducible first | exact HI132.out | apply IsS58.alloc | apply IsS58.drewN | apply IsS58.drew | apply IsS58.set_0) | exact HI132.out)) hb); have n2_ := Aside0.mk (below_step (by repeat (first | (with_reducible first | exact HB.out | apply below_alloc | apply pw_below_drewN | apply below_drew1 | refine below_set ?_ (IsS58.ge HI132.out)) | exact HB.out)) hb); clear HO135; clear HI132; clear HB; have HO135 := n0_; have HI132 := n1_; have HB := n2_; clear n0_ n1_ n2_; (try clear hb); (try clear hb2); (try clear hk); (try clear hi); (try simp only [errW_none, errW_some])))
              go_ret2
              exact ⟨by first | rfl | (rw [e81.out]; rfl) | (rw [e81.out]; simp; done) | (simp [errW_none, errW_some, bne_nil_] <;> rfl) | (simp only [← hji3]; first | rfl | (simp [errW_none, errW_some, bne_nil_] <;> rfl)) | (simp [*, errW_none, errW_some] <;> rfl), by repeat (first | (with_reducible first | exact HB.out | apply below_alloc | apply pw_below_drewN | apply below_drew1 | refine below_set ?_ (IsS58.ge HI132.out)) | exact HB.out)⟩
            · replace c23 := Bool.eq_false_iff.mpr c23
              subst c23
              have H1 : (some (wrap64 (t138), false)) = some (r1, r2) := by rw [if_neg (show ¬ (false = true) by decide)] at H; exact H
              clear H
              have H := H1
              clear H1
              simp only [Option.some.injEq, Prod.mk.injEq] at H
              obtain ⟨rfl, rfl⟩ := H
              go_enter Tryd.func12, Tryd.ntmps12
              go_wp2_with (first | ((with_reducible refine gate_callee (f := 25) rfl ?_); refine goesL_ (some 14) rfl rfl Tryd.func25 (by kernel_rfl) rfl #[.string a0, .string (⟨#[48, 49, 50, 51, 52, 53, 54, 55, 56, 57, 97, 98, 99, 100, 101, 102, 65, 66, 67, 68, 69, 70]⟩ : ByteArray)] rfl (by (try simp only [List.map_toArray, List.map_cons, List.map_nil]); first | done | rfl | (simp only [List.length_drop, List.length_take]; rfl)) ?_; (with_reducible refine (strings_TrimLeft.calls a0 (⟨#[48, 49, 50, 51, 52, 53, 54, 55, 56, 57, 97, 98, 99, 100, 101, 102, 65, 66, 67, 68, 69, 70]⟩ : ByteArray) t131 _ A2.out).mono ?_); rintro e w30 ⟨rfl, hb⟩; refine ⟨_, rfl, ?_⟩; have n0_ := Aside0.mk (below_step (by repeat (first | (with_reducible first | exact HB.out | apply below_alloc | apply pw_below_drewN | apply below_drew1) | exact HB.out)) hb); clear HB; have HB := n0_; clear n0_; (try clear hb); (try clear hb2); (try clear hk); (try clear hi)) | ((with_reducible refine gate_dst (N := 5) rfl ?_); (try (refine gate_guard (by rfl) ?_; dsimp only)); refine box_event ?hg (N := 5) ?hd (cs := #[.string (⟨#[]⟩ : ByteArray)]) (t := 58) ?hr ?_; (case hd => rfl); (case hg => rfl); (case hr => first | (go_simp; done) | (go_simp; rfl)); intro gb132 hg w31 hbox hb; have n0_ := Aside0.mk (below_step (by repeat (first | (with_reducible first | exact HB.out | apply below_alloc | apply pw_below_drewN | apply below_drew1) | exact HB.out)) hb); have n1_ := Aside0.mk ((by rw [hg]; exact (below_size (by repeat (first | (with_reducible first | exact HB.out | apply below_alloc | apply pw_below_drewN | apply below_drew1) | exact HB.out))) : w.heap.size ≤ gb132)); have n2_ := Aside0.mk ((by rw [hg]; exact (below_size (by repeat (first | (with_reducible first | exact HB.out | apply below_alloc | apply pw_below_drewN | apply below_drew1) | exact HB.out))) : w.heap.size ≤ gb132)); have n3_ := Aside0.mk ((show IsS58 w w31 gb132 (⟨#[]⟩ : ByteArray) from ⟨hbox, (by rw [hg]; exact (below_size (by repeat (first | (with_reducible first | exact HB.out | apply below_alloc | apply pw_below_drewN | apply below_drew1) | exact HB.out))))⟩)); clear HB; have HB := n0_; have GW132 := n1_; have GE132 := n2_; have HI132 := n3_; clear n0_ n1_ n2_ n3_; clear hb hbox hg; obtain ⟨HGz32, hgz32⟩ := HI132.out; have hcz32_0 := cellS58_0 HGz32; have hfz32_0 := blk_frozen HGz32 0; clear HGz32 hgz32) | ((with_reducible refine gate_callee (f := 26) rfl ?_); refine goesL_ (some 23) rfl rfl Tryd.func26 (by kernel_rfl) rfl #[.pointer (some ⟨gb132, 0, none⟩)] rfl (by (try simp only [List.map_toArray, List.map_cons, List.map_nil]); first | done | rfl | (simp only [List.length_drop, List.length_take]; rfl)) ?_; (with_reducible refine (media_Text_Params.calls k gb132 (a0.extract (max ji3 0).toNat a0.size) t133 false t137 w _ ?side1 ?side2 A8.out).mono ?_); (case side1 => repeat (first | (with_reducible first | exact HI132.out | apply IsS58.alloc | apply IsS58.drewN | apply IsS58.drew | apply IsS58.set_0) | exact HI132.out)); (case side2 => repeat (first | (with_reducible first | exact HB.out | apply below_alloc | apply pw_below_drewN | apply below_drew1 | refine below_set ?_ (IsS58.ge HI132.out)) | exact HB.out)); rintro e w33 ⟨v134, rfl, ho0, hi, hb, hk⟩; refine ⟨_, rfl, ?_⟩; have n0_ := Aside0.mk (Kd.R_lower ho0 (below_size (by repeat (first | (with_reducible first | exact HB.out | apply below_alloc | apply pw_below_drewN | apply below_drew1 | refine below_set ?_ (IsS58.ge HI132.out)) | exact HB.out)))); have n1_ := Aside0.mk (hb); have n2_ := Aside0.mk (hi); clear HB; clear HI132; have HO135 := n0_; have HB := n1_; have HI132 := n2_; clear n0_ n1_ n2_; (try clear hb); (try clear hb2); (try clear hk); (try clear hi); (try clear ho0)) | ((with_reducible refine gate_callee (f := 27) rfl ?_); refine goesL_ (some 28) rfl rfl Tryd.func27 (by kernel_rfl) rfl #[.string (a0.extract 0 ((ji3) : Int).toNat), .int .i64 16, .int .i64 64] rfl (by (try simp only [List.map_toArray, List.map_cons, List.map_nil]); first | done | (simp only [hji3]; rfl) | rfl | (simp only [List.length_drop, List.length_take]; rfl)) ?_; (with_reducible refine (strconv_ParseUint.calls (a0.extract 0 ((ji3) : Int).toNat) 16 64 t138 (some q140) _ ?side1 A9.out).mono ?_); (case side1 => exact Glob.below hGA.out (by repeat (first | (with_reducible first | exact HB.out | apply below_alloc | apply pw_below_drewN | apply below_drew1 | refine below_set ?_ (IsS58.ge HI132.out)) | exact HB.out))); rintro e w34 ⟨pv35, hpv35, rfl, hb⟩; refine ⟨_, rfl, ?_⟩; obtain ⟨tpv35, ppv35, rfl⟩ := ErrIs.some_ hpv35; have n0_ := Aside0.mk (Kd.R_below (by (with_reducible repeat (first | apply Kd.R_alloc | apply Kd.R_drewN | apply Kd.R_drew)); exact HO135.out) hb); have n1_ := Aside0.mk (IsS58.below (by repeat (first | (with_reducible first | exact HI132.out | apply IsS58.alloc | apply IsS58.drewN | apply IsS58.drew | apply IsS58.set_0) | exact HI132.out)) hb); have n2_ := Aside0.mk (below_step (by repeat (first | (with_reducible first | exact HB.out | apply below_alloc | apply pw_below_drewN | apply below_drew1 | refine below_set ?_ (IsS58.ge HI132.out)) | exact HB.out)) hb); clear HO135; clear HI132; clear HB; have HO135 := n0_; have HI132 := n1_; have HB := n2_; clear n0_ n1_ n2_; (try clear hb); (try clear hb2); (try clear hk); (try clear hi); (try simp only [errW_none, errW_some])))
              go_ret2
              exact ⟨by first | rfl | (rw [e81.out]; rfl) | (rw [e81.out]; simp; done) | (simp [errW_none, errW_some, bne_nil_] <;> rfl) | (simp only [← hji3]; first | rfl | (simp [errW_none, errW_some, bne_nil_] <;> rfl)) | (simp [*, errW_none, errW_some] <;> rfl), by repeat (first | (with_reducible first | exact HB.out | apply below_alloc | apply pw_below_drewN | apply below_drew1 | refine below_set ?_ (IsS58.ge HI132.out)) | exact HB.out)⟩
        · rw [if_neg c7] at H
          exact absurd H (by simp)
      · rw [if_neg c6] at H
        exact absurd H (by simp)
    · rw [if_neg c5] at H
      exact absurd H (by simp)
  · rw [if_neg c4] at H
    exact absurd H (by simp)

end Go.Proofs.YteonhdfjfjpbjaaDoor.P

/- Px10 -/
namespace Go.Proofs.YteonhdfjfjpbjaaDoor.P
open Go.Proofs.YteonhdfjfjpbjaaDoor.B
open Go.RowKit Go.Proofs.YteonhdfjfjpbjaaDoorW.PrintWords Go.Proofs.YteonhdfjfjpbjaaDoorW.PrintLast Go.Proofs.YteonhdfjfjpbjaaDoorW.PrintMore
attribute [local go_sem] str_leq str_gtr str_geq max2_int min2_int max_two min_two max_three min_three max_four min_four   -- for this text's walks alone
set_option linter.unusedVariables false
set_option linter.unusedSimpArgs false

/-! ### chunk_part: function 13 -/
def chunk_part.f (a0 : ByteArray) (a1 : Int) (a2 : Int) : Option (ByteArray × ByteArray × Int) := if a1 > (wrap64 (100000 - a2)) then (some ((⟨#[]⟩ : ByteArray), (⟨#[]⟩ : ByteArray), 2)) else (if (a0.size : Int) < a1 then (some ((⟨#[]⟩ : ByteArray), (⟨#[]⟩ : ByteArray), 190)) else (if 0 ≤ a1 then (if a1 ≤ (a0.size : Int) then ((strings_CutPrefix.f (a0.extract (a1 : Int).toNat a0.size) (⟨#[13, 10]⟩ : ByteArray)).bind fun bt141 => (if bt141.2 = true then (some (a0.extract 0 (a1 : Int).toNat, bt141.1, 0)) else (some ((⟨#[]⟩ : ByteArray), (⟨#[]⟩ : ByteArray), 190)))) else (none)) else (none)))
set_option maxHeartbeats 8000000 in
set_option maxRecDepth 100000 in
theorem chunk_part.calls (a0 : ByteArray) (a1 : Int) (a2 : Int) (r1 : ByteArray) (r2 : ByteArray) (r3 : Int) (w : World) (h : chunk_part.f a0 a1 a2 = some (r1, r2, r3)) :
    Calls Tryd.prog 13 #[.string a0, .int .i64 a1, .int .i64 a2] w fun e w' => e = .returned (.tuple #[.string r1, .string r2, .int .i64 r3]) ∧ Drawn0 w w' := by
  have H : (if a1 > (wrap64 (100000 - a2)) then (some ((⟨#[]⟩ : ByteArray), (⟨#[]⟩ : ByteArray), 2)) else (if (a0.size : Int) < a1 then (some ((⟨#[]⟩ : ByteArray), (⟨#[]⟩ : ByteArray), 190)) else (if 0 ≤ a1 then (if a1 ≤ (a0.size : Int) then ((strings_CutPrefix.f (a0.extract (a1 : Int).toNat a0.size) (⟨#[13, 10]⟩ : ByteArray)).bind fun bt141 => (if bt141.2 = true then (some (a0.extract 0 (a1 : Int).toNat, bt141.1, 0)) else (some ((⟨#[]⟩ : ByteArray), (⟨#[]⟩ : ByteArray), 190)))) else (none)) else (none)))) = some (r1, r2, r3) := h
  clear h
  by_cases c4 : a1 > (wrap64 (100000 - a2))
  · rw [if_pos c4] at H
    have c4b0 : decide ((wrap64 (100000 - a2)) < a1) = true := decide_eq_true c4
    clear c4
    simp only [Option.some.injEq, Prod.mk.injEq] at H
    obtain ⟨rfl, rfl, rfl⟩ := H
    go_enter Tryd.func13, Tryd.ntmps13
    go_wp2
    go_ret3
    exact ⟨by first | rfl | (simp; done) | (simp [*]; done), by repeat (first | exact Drawn0.refl _ | apply Drawn0.step)⟩
  · rw [if_neg c4] at H
    have c4b0 : decide ((wrap64 (100000 - a2)) < a1) = false := decide_eq_false c4
    clear c4
    by_cases c5 : (a0.size : Int) < a1
    · rw [if_pos c5] at H
      have c5b0 : decide ((a0.size : Int) < a1) = true := decide_eq_true c5
      clear c5
      simp only [Option.some.injEq, Prod.mk.injEq] at H
      obtain ⟨rfl, rfl, rfl⟩ := H
      go_enter Tryd.func13, Tryd.ntmps13
      go_wp2
      go_ret3
      exact ⟨by first | rfl | (simp; done) | (simp [*]; done), by repeat (first | exact Drawn0.refl _ | apply Drawn0.step)⟩
    · rw [if_neg c5] at H
      have c5b0 : decide ((a0.size : Int) < a1) = false := decide_eq_false c5
      clear c5
      by_cases c6 : 0 ≤ a1
      · rw [if_pos c6] at H
        have c6b0 := eq_true c6
        have c6b1 : decide (0 ≤ a1) = true := decide_eq_true c6
        clear c6
        by_cases c7 : a1 ≤ (a0.size : Int)
        · rw [if_pos c7] at H
          have c7b0 := eq_true c7
          have c7b1 : decide (a1 ≤ (a0.size : Int)) = true := decide_eq_true c7
          clear c7
          replace H := Option.bind_eq_some_iff.mp H
          obtain ⟨⟨t141, t142⟩, A80, H⟩ := H
          replace H : (if t142 = true then (some (a0.extract 0 (a1 : Int).toNat, t141, 0)) else (some ((⟨#[]⟩ : ByteArray), (⟨#[]⟩ : ByteArray), 190))) = some (r1, r2, r3) := H
          have A8 := Aside0.mk A80
          clear A80
          by_cases c9 : t142 = true
          · subst c9
            have H1 : (some (a0.extract 0 (a1 : Int).toNat, t141, 0)) = some (r1, r2, r3) := by rw [if_pos rfl] at H; exact H
            clear H
            have H := H1
            clear H1
            have c10b0 := eq_true (of_decide_eq_true (by first | (with_reducible assumption) | assumption) : 0 ≤ a1)
            have c11b0 := eq_true (of_decide_eq_true (by first | (with_reducible assumption) | assumption) : a1 ≤ (a0.size : Int))
            simp only [Option.some.injEq, Prod.mk.injEq] at H
            obtain ⟨rfl, rfl, rfl⟩ := H
            go_enter Tryd.func13, Tryd.ntmps13
            go_wp2_with (first | ((with_reducible refine gate_callee (f := 28) rfl ?_); refine goesL_ (some 22) rfl rfl Tryd.func28 (by kernel_rfl) rfl #[.string (a0.extract (a1 : Int).toNat a0.size), .string (⟨#[13, 10]⟩ : ByteArray)] rfl (by (try simp only [List.map_toArray, List.map_cons, List.map_nil]); first | done | rfl | (simp only [List.length_drop, List.length_take]; rfl)) ?_; (with_reducible refine (strings_CutPrefix.calls (a0.extract (a1 : Int).toNat a0.size) (⟨#[13, 10]⟩ : ByteArray) t141 true _ A8.out).mono ?_); rintro e w' ⟨rfl, ⟨nd, rfl⟩⟩; refine ⟨_, rfl, ?_⟩))
            go_ret3
            exact ⟨by first | rfl | (simp; done) | (simp [*]; done), by repeat (first | exact Drawn0.refl _ | apply Drawn0.step)⟩
          · replace c9 := Bool.eq_false_iff.mpr c9
            subst c9
            have H1 : (some ((⟨#[]⟩ : ByteArray), (⟨#[]⟩ : ByteArray), 190)) = some (r1, r2, r3) := by rw [if_neg (show ¬ (false = true) by decide)] at H; exact H
            clear H
            have H := H1
            clear H1
            simp only [Option.some.injEq, Prod.mk.injEq] at H
            obtain ⟨rfl, rfl, rfl⟩ := H
            go_enter Tryd.func13, Tryd.ntmps13
            go_wp2_with (first | ((with_reducible refine gate_callee (f := 28) rfl ?_); refine goesL_ (some 22) rfl rfl Tryd.func28 (by kernel_rfl) rfl #[.string (a0.extract (a1 : Int).toNat a0.size), .string (⟨#[13, 10]⟩ : ByteArray)] rfl (by (try simp only [List.map_toArray, List.map_cons, List.map_nil]); first | done | rfl | (simp only [List.length_drop, List.length_take]; rfl)) ?_; (with_reducible refine (strings_CutPrefix.calls (a0.extract (a1 : Int).toNat a0.size) (⟨#[13, 10]⟩ : ByteArray) t141 false _ A8.out).mono ?_); rintro e w' ⟨rfl, ⟨nd, rfl⟩⟩; refine ⟨_, rfl, ?_⟩))
            go_ret3
            exact ⟨by first | rfl | (simp; done) | (simp [*]; done), by repeat (first | exact Drawn0.refl _ | apply Drawn0.step)⟩
        · rw [if_neg c7] at H
          exact absurd H (by simp)
      · rw [if_neg c6] at H
        exact absurd H (by simp)

end Go.Proofs.YteonhdfjfjpbjaaDoor.P

/- SpA -/
namespace Go.Proofs.YteonhdfjfjpbjaaDoor.Sp
open Go
set_option linter.unusedVariables false
set_option linter.unusedSimpArgs false
abbrev L := List UInt8

/-! ### Bytes -/
def ctl (c : UInt8) : Bool := decide (c.toNat < 32) && !(c == 9) || c == 127
def bl (c : UInt8) : Bool := c == 32 || c == 9
def signs : L := [48, 49, 50, 51, 52, 53, 54, 55, 56, 57, 65, 66, 67, 68, 69, 70, 71, 72, 73, 74, 75, 76, 77, 78, 79, 80, 81, 82, 83, 84, 85, 86, 87, 88, 89, 90, 97, 98, 99, 100, 101, 102, 103, 104, 105, 106, 107, 108, 109, 110, 111, 112, 113, 114, 115, 116, 117, 118, 119, 120, 121, 122, 33, 35, 36, 37, 38, 39, 42, 43, 45, 46, 94, 95, 96, 124, 126]
def tokB (c : UInt8) : Bool := signs.contains c
def lowB (c : UInt8) : UInt8 := if 65 ≤ c.toNat ∧ c.toNat ≤ 90 then UInt8.ofNat (c.toNat + 32) else c
def low (s : L) : L := s.map lowB
def hexV (c : UInt8) : Option Nat := if 48 ≤ c.toNat ∧ c.toNat ≤ 57 then some (c.toNat - 48) else if 65 ≤ c.toNat ∧ c.toNat ≤ 70 then some (c.toNat - 55) else if 97 ≤ c.toNat ∧ c.toNat ≤ 102 then some (c.toNat - 87) else none
def hexB (c : UInt8) : Bool := (hexV c).isSome

/-! ### Tokens, quoted texts, parameters -/
def tok (s : L) : L × L := (s.takeWhile tokB, s.dropWhile tokB)
def skip (s : L) : L := s.dropWhile bl
def quoted : L → Option (L × L)
  | [] => none
  | c :: r => if c = 34 then some ([], r) else if c = 92 then (match r with
      | [] => none
      | d :: r' => if ctl d = true then none else (quoted r').map fun p => (d :: p.1, p.2))
    else if ctl c = true then none else (quoted r).map fun p => (c :: p.1, p.2)
def value (s : L) : Option (L × L) := if s.head? = some 34 then quoted s.tail else if (tok s).1 = [] then none else some (tok s)
def params : Nat → L → Option (List (L × L))
  | 0, _ => none
  | f + 1, s => if skip s = [] then some [] else if (skip s).head? ≠ some 59 then none else
      if (tok (skip (skip s).tail)).1 = [] then none else if (tok (skip (skip s).tail)).2.head? ≠ some 61 then none else
      match value (tok (skip (skip s).tail)).2.tail with
      | none => none
      | some (v, rest) => (params f rest).map ((low (tok (skip (skip s).tail)).1, v) :: ·)
def pars (s : L) : Option (List (L × L)) := params (s.length + 1) s

/-! ### Lines, fields -/
def line : L → Option (L × L)
  | [] => none
  | c :: r => if c = 13 ∧ r.head? = some 10 then some ([], r.tail) else (line r).map fun p => (c :: p.1, p.2)
def trim (s : L) : L := (skip (skip s).reverse).reverse
def fval (s : L) : Bool := s.all (fun c => !ctl c) && decide (trim s = s)
def pairOf (l : L) : Option (L × L) := if (tok l).1 = [] then none else if (tok l).2.head? ≠ some 58 then none else if fval (trim (tok l).2.tail) = true then some (low (tok l).1, trim (tok l).2.tail) else none
/-- The fields, what stands behind them, the error (0: none); N: how long all of it is. -/
def fparse (N : Nat) : Nat → L → List (L × L) → List (L × L) × L × Int
  | 0, _, _ => ([], [], 180)
  | f + 1, s, acc => match line s with
    | none => ([], [], if N > 8000 then 2 else 180)
    | some (l, more) => if N - more.length > 8000 then ([], [], if N > 8000 then 2 else 180) else if l = [] then (acc, more, 0) else match pairOf l with
      | none => ([], [], 180)
      | some p => fparse N f more (acc ++ [p])
def fields (s : L) : List (L × L) × L × Int := fparse s.length (s.length + 1) s []

/-! ### Bodies in parts -/
def hexN (d : L) : Nat := d.foldl (fun n c => n * 16 + (hexV c).getD 0) 0
def csize (l : L) : Option Nat := if l.takeWhile hexB = [] ∨ 8 < (l.takeWhile hexB).length ∨ pars (l.dropWhile hexB) = none then none else some (hexN (l.takeWhile hexB))
/-- The body, what stands behind it, the error. -/
def decode : Nat → L → L → L × L × Int
  | 0, _, _ => ([], [], 190)
  | f + 1, s, acc => match line s with
    | none => ([], [], 190)
    | some (l, more) => match csize l with
      | none => ([], [], 190)
      | some n => if n = 0 then (if (fields more).2.2 = 0 then (acc, (fields more).2.1, 0) else ([], [], 190))
        else if n + acc.length > 100000 then ([], [], 2)
        else if more.length < n then ([], [], 190)
        else if (more.drop n).take 2 ≠ [13, 10] then ([], [], 190)
        else decode f (more.drop (n + 2)) (acc ++ more.take n)
def dec (s : L) : L × L × Int := decode (s.length + 1) s []
def hexC (n : Nat) : UInt8 := if n < 10 then UInt8.ofNat (48 + n) else UInt8.ofNat (87 + n)
def hexD (n : Nat) : L := if h : n < 16 then [hexC n] else hexD (n / 16) ++ [hexC (n % 16)]
termination_by n
decreasing_by omega
def encode : Nat → L → Nat → L
  | 0, _, _ => []
  | f + 1, s, n => if s = [] then [48, 13, 10, 13, 10] else hexD (min n s.length) ++ [13, 10] ++ s.take n ++ [13, 10] ++ encode f (s.drop n) n
def enc (s : L) (n : Nat) : L := encode (s.length + 1) s n

/-! ### Their laws -/
theorem line_len : ∀ (s : L) (p : L × L), line s = some p → s = p.1 ++ 13 :: 10 :: p.2
  | [], _, h => by simp [line] at h
  | c :: r, p, h => by
    unfold line at h
    split at h
    · rename_i hc
      obtain ⟨rfl, h2⟩ := hc
      obtain rfl := Option.some.inj h
      cases r with
      | nil => simp at h2
      | cons d r => simp at h2; subst h2; rfl
    · cases e : line r with
      | none => rw [e] at h; simp at h
      | some q =>
        rw [e] at h
        simp at h
        subst h
        have := line_len r q e
        simp [this]
theorem line_app : ∀ (a b : L), (∀ x y, ¬ (a = x ++ 13 :: 10 :: y)) → (a.getLast? ≠ some 13) → line (a ++ 13 :: 10 :: b) = some (a, b)
  | [], b, _, _ => by simp [line]
  | c :: r, b, h, hl => by
    have hr : ∀ x y, ¬ (r = x ++ 13 :: 10 :: y) := fun x y e => h (c :: x) y (by simp [e])
    rw [List.cons_append, line, if_neg]
    · rw [line_app r b hr (by
        cases r with
        | nil => simp
        | cons d r => rw [List.getLast?_cons_cons] at hl; exact hl)]
      rfl
    · rintro ⟨rfl, h2⟩
      cases r with
      | nil => simp at hl
      | cons d r =>
        simp at h2
        subst h2
        exact h [] r rfl
/-- A text without 13 has no line. -/
theorem line_no : ∀ (a : L), 13 ∉ a → line a = none
  | [], _ => rfl
  | c :: r, h => by
    rw [line, if_neg (by rintro ⟨rfl, _⟩; simp at h), line_no r (fun e => h (by simp [e]))]
    rfl
end Go.Proofs.YteonhdfjfjpbjaaDoor.Sp

/- Orng -/
namespace Go.Proofs.YteonhdfjfjpbjaaDoor.O
open Go.RowKit Go.Shelf
attribute [local go_sem] Oper.semAt_some
set_option linter.unusedVariables false
set_option linter.unusedSimpArgs false

/-! ### The first line of a text, and what the library's cut gives -/
def lineB (s : ByteArray) : Option (ByteArray × ByteArray) := (Sp.line s.data.toList).map fun p => (⟨p.1.toArray⟩, ⟨p.2.toArray⟩)
theorem index2 (c : UInt8) (r : List UInt8) : Lib.index (c :: r) [13, 10] = if c = 13 ∧ r.head? = some 10 then 0 else if Lib.index r [13, 10] == -1 then -1 else Lib.index r [13, 10] + 1 := by
  cases r with
  | nil => by_cases h : c = 13 <;> simp [Lib.index, List.isPrefixOf, h]
  | cons d r =>
    by_cases h : c = 13 ∧ d = 10
    · obtain ⟨rfl, rfl⟩ := h
      simp [Lib.index, List.isPrefixOf]
    · have h' : ((13 == c) && ((10 == d) && true)) = false := by
        rw [Bool.eq_false_iff]
        intro e
        simp only [Bool.and_eq_true, beq_iff_eq, and_true] at e
        exact h ⟨e.1.symm, e.2.symm⟩
      have h2 : ¬ (c = 13 ∧ (d :: r).head? = some 10) := by simpa using fun e1 e2 => h ⟨e1, e2⟩
      rw [if_neg h2, Lib.index]
      have h3 : ([13, 10] : List UInt8).isPrefixOf (c :: d :: r) = false := by
        simp only [List.isPrefixOf]
        exact h'
      rw [h3, if_neg (by decide)]
theorem index_line : ∀ s : List UInt8, (Sp.line s = none ∧ Lib.index s [13, 10] = -1) ∨ (∃ p : List UInt8 × List UInt8, Sp.line s = some p ∧ Lib.index s [13, 10] = p.1.length)
  | [] => .inl ⟨rfl, by simp [Lib.index]⟩
  | c :: r => by
    rw [index2, Sp.line]
    by_cases h : c = 13 ∧ r.head? = some 10
    · rw [if_pos h, if_pos h]
      exact .inr ⟨_, rfl, rfl⟩
    · rw [if_neg h, if_neg h]
      rcases index_line r with ⟨e1, e2⟩ | ⟨p, e1, e2⟩
      · rw [e1, e2]
        exact .inl ⟨rfl, rfl⟩
      · rw [e1, e2]
        have hb : ((p.1.length : Int) == -1) = false := by simp
        rw [hb, if_neg (by decide)]
        exact .inr ⟨_, rfl, by simp⟩
theorem cut_none (s : ByteArray) (h : lineB s = none) : Lib.cut s.data.toList [13, 10] = (s.data.toList, [], false) := by
  rcases index_line s.data.toList with ⟨e1, e2⟩ | ⟨p, e1, e2⟩
  · unfold Lib.cut
    rw [e2, if_neg (by omega)]
  · unfold lineB at h
    rw [e1] at h
    simp at h
theorem cut_some (s x y : ByteArray) (h : lineB s = some (x, y)) : Lib.cut s.data.toList [13, 10] = (x.data.toList, y.data.toList, true) := by
  rcases index_line s.data.toList with ⟨e1, e2⟩ | ⟨p, e1, e2⟩
  · unfold lineB at h
    rw [e1] at h
    simp at h
  · unfold lineB at h
    rw [e1] at h
    simp only [Option.map_some, Option.some.injEq, Prod.mk.injEq] at h
    obtain ⟨rfl, rfl⟩ := h
    have hs := Sp.line_len _ _ e1
    unfold Lib.cut
    rw [e2, if_pos (by omega)]
    have e3 : (p.1 ++ 13 :: 10 :: p.2).drop (p.1.length + 2) = p.2 := by
      rw [← List.drop_drop, List.drop_left' rfl]
      rfl
    have e4 : (p.1 ++ 13 :: 10 :: p.2).take p.1.length = p.1 := List.take_left' rfl
    rw [hs]
    simp only [Int.toNat_natCast, List.length_cons, List.length_nil, e4]
    rw [show p.1.length + (0 + 1 + 1) = p.1.length + 2 by omega, e3]
theorem lineB_size (s x y : ByteArray) (h : lineB s = some (x, y)) : s.size = x.size + y.size + 2 := by
  unfold lineB at h
  cases e : Sp.line s.data.toList with
  | none => rw [e] at h; simp at h
  | some p =>
    rw [e] at h
    simp only [Option.map_some, Option.some.injEq, Prod.mk.injEq] at h
    obtain ⟨rfl, rfl⟩ := h
    have hs := congrArg List.length (Sp.line_len _ _ e)
    simp only [List.length_append, List.length_cons] at hs
    rw [Lib.size_eq, Lib.size_eq, Lib.size_eq]
    show s.data.toList.length = p.1.length + p.2.length + 2
    omega

/-! ### The statement -/
/-- What abides a store into block B, and an answer of the tape. -/
structure Stays (B : Nat) (J : World → Prop) : Prop where
  set : ∀ W v, J W → J (W.setCell ⟨B, 0, none⟩ v)
  drew : ∀ W k, J W → J (W.drewN k)
/-- A function value that hands its caller's rounds the lines of s0, one by one; B: its box. -/
def LinesOf (F : Fence) (n : Nat) (gf : Nat) (lb : Array Value) (B : Nat) (s0 : ByteArray) (w : World) : Prop :=
  ∀ (l : Nat) (J : ByteArray → World → Prop) (Jx : World → Prop) (W : World), Below w.heap.size w W → (∀ c, Stays B (J c)) → (∀ c W, J c W → Glob W) →
    (∀ cur x y W1, J cur W1 → lineB cur = some (x, y) → YieldAt F (n - 1) Tryd.prog l #[.string x, .string y] W1 fun e W' =>
      (e = .returned (.bool true) ∧ J y W' ∧ W'.heap[B]? = W1.heap[B]?) ∨ (e = .returned (.bool false) ∧ Jx W')) →
    J s0 W →
    CallsIn F n Tryd.prog gf (#[.func (.yield l) #[] #[]] ++ lb) W fun e W' => (∃ v, e = .returned v) ∧ ((∃ cur, lineB cur = none ∧ J cur W') ∨ Jx W')
/-- How a round's body may be left. -/
def roundEnd (N B : Nat) (I : ByteArray → World → Prop) (Ix : Code → World → Prop) (y : ByteArray) (W : World) : Exit → Act → World → Prop
  | .normal, _, W' => KeepsFrom N W W' ∧ W'.heap[B]? = W.heap[B]? ∧ I y W'
  | .ret, _, W' => KeepsFrom N W W' ∧ Ix .ret W'
  | .exit id, _, W' => KeepsFrom N W W' ∧ Ix (.exit id) W'
  | .goto t, _, W' => KeepsFrom N W W' ∧ Ix (.goto t) W'
  | .panic _, _, _ => False
  | .outgrown, _, _ => False
variable {F : Fence} {n : Nat}
theorem range_lines {g : Operand} {ps : Array Tmp} {assign body : Code} {Q : Exit → Act → World → Prop} {a : Act} {w : World}
    (hro : F.round = none) (h1 : 1 ≤ n) {gf : Nat} {lb : Array Value} (hg : a.eval g = .func (.func gf) #[] lb) (hFg : F.fn gf) (eg : ∀ args w, (callFunc gf args).run Tryd.prog w = .ok (.enter gf args) w)
    {B : Nat} {s0 : ByteArray} (hit : LinesOf F (n - 1) gf lb B s0 w) (hB : B < w.heap.size) (hps : ps.size = 2)
    (I : ByteArray → World → Prop) (Ix : Code → World → Prop) (hI : OwnFrom w.heap.size I) (hIx : OwnFrom w.heap.size Ix) (hIs : ∀ c, Stays B (I c)) (hIG : ∀ c W, I c W → Glob W) (h0 : I s0 w) (a₁ : ByteArray → ByteArray → Act)
    (hassign : ∀ (l : Nat) (x y : ByteArray) (W : World) (K : Act → World → Prop), K (a₁ x y) W →
      assign.wpIn (F.inRound l) (n - 1 - 1) Tryd.prog (Exit.then K (fun _ _ _ => False)) { tmps := (ps.zip #[Value.string x, Value.string y]).foldl (fun t (p, v) => t.setIfInBounds p v) a.tmps, defers := [] } W)
    (hbody : ∀ (l : Nat) (cur x y : ByteArray) (W : World), I cur W → lineB cur = some (x, y) → body.wpIn (F.inRound l) (n - 1 - 1) Tryd.prog (roundEnd w.heap.size B I Ix y W) (a₁ x y) W)
    (hdone : ∀ (D : Nat) (cur : ByteArray) (W : World), w.heap.size ≤ D → lineB cur = none → I cur W → W.heap[D]? = some (.deferred (some [])) → Q .normal { a with defers := { target := .collected D, args := #[] } :: a.defers } W)
    (hstop : ∀ (D : Nat) (c : Code) (W : World), w.heap.size ≤ D → Ix c W → W.heap[D]? = some (.deferred (some [])) → c.wpIn F n Tryd.prog Q { a with defers := { target := .collected D, args := #[] } :: a.defers } W) :
    (Code.rangeFunc g ps assign body).wpIn F n Tryd.prog Q a w := by
  refine wpIn_rangeFunc (fun fn hfn => ?_)
  rw [hro]
  obtain ⟨R, hR⟩ : ∃ R : LoopState → Option Code → Loop, R = fun st pe => { state := st, pending := pe, fn, tmps := a.tmps, params := ps, assign, body, defers := w.heap.size } := ⟨_, rfl⟩
  obtain ⟨V, hV⟩ : ∃ V, V = (w.alloc (.deferred (some []))).alloc (.loop (R .ready none)) := ⟨_, rfl⟩
  have hN : w.heap.size + 1 = (w.alloc (.deferred (some []))).heap.size := (World.size_alloc _ _).symm
  have hL : V.heap[w.heap.size + 1]? = some (.loop (R .ready none)) := by rw [hV, hN]; exact World.alloc_heap_new _ _
  have hD : V.heap[w.heap.size]? = some (.deferred (some [])) := by rw [hV]; exact (Below.heap_alloc _ _ _ (by simp)).trans (World.alloc_heap_new w _)
  have hbel : Below w.heap.size w V := by rw [hV]; exact ((Below.refl _ w).alloc (Nat.le_refl _) _).alloc (by simp) _
  have hI0 : I s0 V := by rw [hV]; exact hI.alloc _ (hI.alloc _ h0)
  refine ⟨w.heap.size + 1, [{ target := .collected w.heap.size, args := #[] }], V, { target := .fn (.func gf) lb, args := #[.func (.yield (w.heap.size + 1)) #[] #[]] }, V, gf, #[.func (.yield (w.heap.size + 1)) #[] #[]] ++ lb, V, ?_, ?_, ?_, ?_, fun _ => h1, ?_⟩
  · rw [hV, hR]; exact run_enterLoop_outer _ _ _ _ _
  · simp only [resolve, hg]
    simp [go_sem]
  · intro f' hf'
    simp [Target.leads] at hf'
    subst hf'
    exact hFg
  · simp [invoke, go_sem, eg]
  refine (hit (w.heap.size + 1) (fun c W => I c W ∧ W.heap[w.heap.size + 1]? = some (.loop (R .ready none)) ∧ W.heap[w.heap.size]? = some (.deferred (some [])))
    (fun W => ∃ c, Ix c W ∧ W.heap[w.heap.size + 1]? = some (.loop (R .done (some c))) ∧ W.heap[w.heap.size]? = some (.deferred (some []))) V hbel
    (fun c => ⟨fun W v h => ⟨(hIs c).set W v h.1, (KeepsOthers.setCell W _ v).same _ _ h.2.1 rfl, (KeepsOthers.setCell W _ v).same _ _ h.2.2 rfl⟩, fun W k h => ⟨(hIs c).drew W k h.1, h.2⟩⟩)
    (fun c W h => hIG c W h.1) ?_ ⟨hI0, hL, hD⟩).mono ?_
  · rintro cur x y W ⟨hi, hl, hk⟩ hline
    have hlt : w.heap.size + 1 < W.heap.size := (Array.getElem?_eq_some_iff.1 hl).1
    have hy := run_yield (P := Tryd.prog) (args := #[.string x, .string y]) hl (by rw [hR]; exact hps.symm)
    rw [hR] at hy
    refine ⟨fn, _, assign, body, hy, roundIn_of_wpIn hfn (hassign _ x y W _ ⟨_, run_beginRound hl (by rw [hR]), ?_⟩)⟩
    have hl2 : (W.putObj (w.heap.size + 1) (.loop { R .ready none with state := .busy })).heap[w.heap.size + 1]? = some (.loop { R .ready none with state := .busy }) := World.putObj_heap_same hlt
    have hk2 : (W.putObj (w.heap.size + 1) (.loop { R .ready none with state := .busy })).heap[w.heap.size]? = some (.deferred (some [])) := (World.putObj_heap_other (by omega)).trans hk
    have hB2 : (W.putObj (w.heap.size + 1) (.loop { R .ready none with state := .busy })).heap[B]? = W.heap[B]? := World.putObj_heap_other (by omega)
    refine wpIn_mono (hbody _ cur x y _ (hI.putObj _ hi (by omega) hl rfl) hline) ?_
    generalize W.putObj (w.heap.size + 1) (.loop { R .ready none with state := .busy }) = W2 at *
    have fin : ∀ (jump : Option Code) (W3 : World), KeepsFrom w.heap.size W2 W3 →
        (Instr.endRound (w.heap.size + 1) jump).run Tryd.prog W3 = .ok (.bool jump.isNone) (W3.putObj (w.heap.size + 1) (.loop (R (if jump.isNone then .ready else .done) jump))) ∧
        W3.heap[w.heap.size + 1]? = some (.loop { R .ready none with state := .busy }) ∧
        (W3.putObj (w.heap.size + 1) (.loop (R (if jump.isNone then .ready else .done) jump))).heap[w.heap.size + 1]? = some (.loop (R (if jump.isNone then .ready else .done) jump)) ∧
        (W3.putObj (w.heap.size + 1) (.loop (R (if jump.isNone then .ready else .done) jump))).heap[w.heap.size]? = some (.deferred (some [])) := fun jump W3 hk3 => by
      have hl3 := hk3.same _ _ (by omega) hl2 rfl
      have he := run_endRound (P := Tryd.prog) jump hl3
      refine ⟨?_, hl3, World.putObj_heap_same (Array.getElem?_eq_some_iff.1 hl3).1, (World.putObj_heap_other (by omega)).trans (hk3.same _ _ (Nat.le_refl _) hk2 rfl)⟩
      rw [he, hR]
    intro e a3 W3 hp
    cases e with
    | normal =>
      obtain ⟨hk3, hb3, hi3⟩ := hp
      obtain ⟨hr, hl3, hl4, hk4⟩ := fin none W3 hk3
      exact ⟨_, _, hr, .inl ⟨rfl, ⟨hI.putObj _ hi3 (by omega) hl3 rfl, hl4, hk4⟩, (World.putObj_heap_other (by omega)).trans (hb3.trans hB2)⟩⟩
    | ret =>
      obtain ⟨hk3, hi3⟩ := hp
      obtain ⟨hr, hl3, hl4, hk4⟩ := fin (some .ret) W3 hk3
      exact ⟨_, _, hr, .inr ⟨rfl, .ret, hIx.putObj _ hi3 (by omega) hl3 rfl, hl4, hk4⟩⟩
    | exit id =>
      obtain ⟨hk3, hi3⟩ := hp
      obtain ⟨hr, hl3, hl4, hk4⟩ := fin (some (.exit id)) W3 hk3
      exact ⟨_, _, hr, .inr ⟨rfl, .exit id, hIx.putObj _ hi3 (by omega) hl3 rfl, hl4, hk4⟩⟩
    | goto t =>
      obtain ⟨hk3, hi3⟩ := hp
      obtain ⟨hr, hl3, hl4, hk4⟩ := fin (some (.goto t)) W3 hk3
      exact ⟨_, _, hr, .inr ⟨rfl, .goto t, hIx.putObj _ hi3 (by omega) hl3 rfl, hl4, hk4⟩⟩
    | panic ch => exact hp.elim
    | outgrown => exact hp.elim
  · rintro e W2 ⟨⟨v, rfl⟩, (⟨cur, hcur, hi, hl, hk⟩ | ⟨c, hi, hl, hk⟩)⟩
    · refine ⟨none, _, ?_, hdone _ cur _ (Nat.le_refl _) hcur (hI.putObj (.loop { R .ready none with state := .exhausted }) hi (by omega) hl rfl) ((World.putObj_heap_other (by omega)).trans hk)⟩
      have := run_endLoop (P := Tryd.prog) hl (by rw [hR]; simp)
      rw [hR] at this ⊢
      exact this
    · refine ⟨some c, _, ?_, hstop _ c _ (Nat.le_refl _) (hIx.putObj (.loop { R .done (some c) with state := .exhausted }) hi (by omega) hl rfl) ((World.putObj_heap_other (by omega)).trans hk)⟩
      have := run_endLoop (P := Tryd.prog) hl (by rw [hR]; simp)
      rw [hR] at this ⊢
      exact this

/-! ### The program's iterator -/
/-- How many bytes are left: what a box holds. -/
def leftIn (B : Nat) (W : World) : Nat := match W.cell? ⟨B, 0, none⟩ with
  | some (.string s) => s.size
  | _ => 0
theorem leftIn_of {B : Nat} {W : World} {s : ByteArray} (h : W.cell? ⟨B, 0, none⟩ = some (.string s)) : leftIn B W = s.size := by unfold leftIn; rw [h]
theorem boxed_of {B : Nat} {W W' : World} (h : W'.heap[B]? = W.heap[B]?) : W'.cell? ⟨B, 0, none⟩ = W.cell? ⟨B, 0, none⟩ := by
  unfold World.cell?
  rw [h]
theorem frozen_of {B : Nat} {W W' : World} (h : W'.heap[B]? = W.heap[B]?) : W'.frozen? ⟨B, 0, none⟩ = W.frozen? ⟨B, 0, none⟩ := by
  unfold World.frozen?
  rw [h]
theorem cut_no (cur : ByteArray) (m : Int) (w : World) (hs : cur.size < 4294967281) (hm : w.cell? ⟨0, 0, none⟩ = some (.int .i64 m)) (h : lineB cur = none) :
    CallsIn Fence.wide n Tryd.prog 11 #[.string cur, .string (⟨#[13, 10]⟩ : ByteArray)] w fun e w' => e = .returned (.tuple #[.string cur, .string ⟨#[]⟩, .bool false]) ∧ ∃ k, w' = w.drewN k := by
  refine callsIn_wide.2 ((Tryd.strings_Cut cur (⟨#[13, 10]⟩ : ByteArray) m w hs hm).mono ?_)
  have e : ((⟨#[13, 10]⟩ : ByteArray).data.toList) = [13, 10] := rfl
  rw [e, cut_none cur h]
  rintro e w' ⟨rfl, k, rfl⟩
  exact ⟨by simp, k, rfl⟩
theorem cut_yes (cur x y : ByteArray) (m : Int) (w : World) (hs : cur.size < 4294967281) (hm : w.cell? ⟨0, 0, none⟩ = some (.int .i64 m)) (h : lineB cur = some (x, y)) :
    CallsIn Fence.wide n Tryd.prog 11 #[.string cur, .string (⟨#[13, 10]⟩ : ByteArray)] w fun e w' => e = .returned (.tuple #[.string x, .string y, .bool true]) ∧ ∃ k, w' = w.drewN k := by
  refine callsIn_wide.2 ((Tryd.strings_Cut cur (⟨#[13, 10]⟩ : ByteArray) m w hs hm).mono ?_)
  have e : ((⟨#[13, 10]⟩ : ByteArray).data.toList) = [13, 10] := rfl
  rw [e, cut_some cur x y h]
  rintro e w' ⟨rfl, k, rfl⟩
  exact ⟨by simp, k, rfl⟩
set_option maxRecDepth 100000 in
set_option maxHeartbeats 4000000 in
theorem lines_stops (n : Nat) (hn : 1 ≤ n) (B : Nat) (s0 : ByteArray) (w : World) (hs : s0.size < 4294967281) (hB : B < w.heap.size) (hbox : Boxed w B 9 (.string s0)) :
    LinesOf Fence.wide n 55 #[.pointer (some ⟨B, 0, none⟩)] B s0 w := by
  intro l J Jx W hW hJ hJG hY h0
  have hfc : Fence.wide.fn 11 := trivial
  have hboxW : Hid (W.cell? ⟨B, 0, none⟩ = some (.string s0) ∧ W.frozen? ⟨B, 0, none⟩ = false) := Lib.hid ⟨(hW.cell (p := ⟨B, 0, none⟩) hB).trans hbox.cell, (hW.frozen (p := ⟨B, 0, none⟩) hB).trans hbox.frozen⟩
  clear hbox hW
  have h0' := Lib.hid h0
  clear h0
  have hJ' := Lib.hid hJ
  have hJG' := Lib.hid hJG
  have hY' := Lib.hid hY
  clear hJ hJG hY
  refine callsIn_of_wp Tryd.func55 rfl trivial ?_ rfl
  simp only [Tryd.ntmps55, List.size_toArray, List.length_cons, List.length_nil, Nat.reduceAdd, Nat.reduceSub, Array.replicate_succ, Array.replicate_zero, List.push_toArray, List.append_toArray, List.nil_append, List.cons_append]
  gi_wp2
  gi_loopw [3] (fun t wr => ∃ cur : ByteArray, cur.size < 4294967281 ∧ Hid (wr.cell? ⟨B, 0, none⟩ = some (.string cur) ∧ wr.frozen? ⟨B, 0, none⟩ = false) ∧ Hid (J cur wr)) (fun _ wr => leftIn B wr)
  case atStart => exact ⟨s0, hs, hboxW, h0'⟩
  case round =>
    obtain ⟨cur, hsz, hbx, hJc⟩ := hrel
    obtain ⟨hc0, hf0⟩ := hbx.out
    obtain ⟨m, hm⟩ := (hJG'.out cur wr hJc.out).cell
    have hleft := Lib.hid (leftIn_of hc0)
    rcases hline : lineB cur with _ | ⟨x, y⟩
    · have HC := Lib.hid (cut_no (n := n - 1) cur m wr hsz hm hline)
      have hline' := Lib.hid hline
      clear hm hline
      gi_wp2_with (gi_at_call 11; refine HC.out.mono ?_; rintro e w' ⟨rfl, k, rfl⟩)
      refine ⟨fun _ h => (by cases h), ?_⟩
      gi_wp2
      refine bodyPost_ret (results_none rfl _ _ _) rfl ?_
      exact ⟨⟨_, rfl⟩, .inl ⟨cur, hline'.out, (hJ'.out cur).drew _ k hJc.out⟩⟩
    · have HC := Lib.hid (cut_yes (n := n - 1) cur x y m wr hsz hm hline)
      have hR0 := Lib.hid (fun k => hY'.out cur x y (wr.drewN k) ((hJ'.out cur).drew _ k hJc.out) hline)
      have hsy := Lib.hid (lineB_size cur x y hline)
      clear hm hline
      gi_wp2_with (gi_at_call 11; refine HC.out.mono ?_; rintro e w' ⟨rfl, k, rfl⟩; obtain ⟨fn, tmps, assign, body, hy, hR⟩ := hR0.out k; have hR := Lib.hid hR)
      refine hR.out.mono ?_
      rintro e W3 (⟨rfl, hJ3, hb3⟩ | ⟨rfl, hx3⟩)
      · have hc3 : W3.cell? ⟨B, 0, none⟩ = some (.string cur) := (boxed_of hb3).trans hc0
        have hf3 : W3.frozen? ⟨B, 0, none⟩ = false := (frozen_of hb3).trans hf0
        have hset := Lib.hid (World.cell?_setCell_same W3 ⟨B, 0, none⟩ (.string y) hc3)
        have hJ4 := Lib.hid ((hJ'.out y).set W3 (.string y) hJ3)
        clear hJ3 hb3
        gi_wp2
        go_roundw
        case rel => exact ⟨y, by have := hsy.out; omega, Lib.hid ⟨hset.out, by rw [World.frozen?_setCell]; exact hf3⟩, hJ4⟩
        case measure =>
          rw [leftIn_of hset.out, hleft.out]
          have := hsy.out
          omega
      · have hx3 := Lib.hid hx3
        gi_wp2
        refine bodyPost_ret (results_none rfl _ _ _) rfl ?_
        exact ⟨⟨_, rfl⟩, .inr hx3.out⟩
end Go.Proofs.YteonhdfjfjpbjaaDoor.O

/- Px11 -/
namespace Go.Proofs.YteonhdfjfjpbjaaDoor.P
open Go.Proofs.YteonhdfjfjpbjaaDoor.B
open Go.RowKit Go.Proofs.YteonhdfjfjpbjaaDoorW.PrintWords Go.Proofs.YteonhdfjfjpbjaaDoorW.PrintLast Go.Proofs.YteonhdfjfjpbjaaDoorW.PrintMore
attribute [local go_sem] str_leq str_gtr str_geq max2_int min2_int max_two min_two max_three min_three max_four min_four   -- for this text's walks alone
set_option linter.unusedVariables false
set_option linter.unusedSimpArgs false

/-! ### field_token: function 57 -/
def field_token.f (k : Nat) (a0 : ByteArray) : Option (Bool) := (media_Text_Token.f k a0).bind fun bt144 => (if bt144.1.toList = ([] : List UInt8) then (some false) else (some (bt144.2.toList == ([] : List UInt8))))
theorem field_token.mono : ∀ a0 k, LeO (field_token.f k a0) (field_token.f (k + 1) a0) := by
  intro a0 k
  unfold field_token.f
  repeat' first
      | (with_reducible exact media_Text_Token.mono _ _)
      | (with_reducible exact LeO.refl _)
      | (with_reducible exact LeO.none _)
      | (with_reducible refine LeO.ite ?_ ?_)
      | (with_reducible refine LeO.bind ?_ (fun _ => ?_))
      | exact media_Text_Token.mono _ _
      | exact LeO.none _
      | refine LeO.ite ?_ ?_
      | refine LeO.bind ?_ (fun _ => ?_)
set_option maxHeartbeats 8000000 in
set_option maxRecDepth 100000 in
theorem field_token.calls (k : Nat) (a0 : ByteArray) (r : Bool) (w : World) (h : field_token.f k a0 = some r) :
    Calls Tryd.prog 57 #[.string a0] w fun e w' => e = .returned (.bool r) ∧ Below w.heap.size w w' := by
  have HB := Aside0.mk (Below.refl w.heap.size w)
  have H : ((media_Text_Token.f k a0).bind fun bt144 => (if bt144.1.toList = ([] : List UInt8) then (some false) else (some (bt144.2.toList == ([] : List UInt8))))) = some r := h
  clear h
  replace H := Option.bind_eq_some_iff.mp H
  obtain ⟨⟨t144, t145⟩, A20, H⟩ := H
  replace H : (if t144.toList = ([] : List UInt8) then (some false) else (some (t145.toList == ([] : List UInt8)))) = some r := H
  have A2 := Aside0.mk A20
  clear A20
  by_cases c3 : t144.toList = ([] : List UInt8)
  · rw [if_pos c3] at H
    have c3b0 : (t144.toList == ([] : List UInt8)) = true := beq_iff_eq.mpr c3
    have c3b1 : (t144.toList != ([] : List UInt8)) = false := bne_eq_false_iff_eq.mpr c3
    clear c3
    obtain rfl := Option.some.inj H
    go_enter Tryd.func57, Tryd.ntmps57
    go_wp2_with (first | ((with_reducible refine gate_dst (N := 3) rfl ?_); refine box_event ?hg (N := 3) ?hd (cs := #[.string (⟨#[]⟩ : ByteArray)]) (t := 58) ?hr ?_; (case hd => rfl); (case hg => rfl); (case hr => first | (go_simp; done) | (go_simp; rfl)); intro gb143 hg w4 hbox hb; have n0_ := Aside0.mk (below_step (by repeat (first | (with_reducible first | exact HB.out | apply below_alloc | apply pw_below_drewN | apply below_drew1) | exact HB.out)) hb); have n1_ := Aside0.mk ((by rw [hg]; exact (below_size (by repeat (first | (with_reducible first | exact HB.out | apply below_alloc | apply pw_below_drewN | apply below_drew1) | exact HB.out))) : w.heap.size ≤ gb143)); have n2_ := Aside0.mk ((by rw [hg]; exact (below_size (by repeat (first | (with_reducible first | exact HB.out | apply below_alloc | apply pw_below_drewN | apply below_drew1) | exact HB.out))) : w.heap.size ≤ gb143)); have n3_ := Aside0.mk ((show IsS58 w w4 gb143 (⟨#[]⟩ : ByteArray) from ⟨hbox, (by rw [hg]; exact (below_size (by repeat (first | (with_reducible first | exact HB.out | apply below_alloc | apply pw_below_drewN | apply below_drew1) | exact HB.out))))⟩)); clear HB; have HB := n0_; have GW143 := n1_; have GE143 := n2_; have HI143 := n3_; clear n0_ n1_ n2_ n3_; clear hb hbox hg; obtain ⟨HGz5, hgz5⟩ := HI143.out; have hcz5_0 := cellS58_0 HGz5; have hfz5_0 := blk_frozen HGz5 0; clear HGz5 hgz5) | ((with_reducible refine gate_callee (f := 48) rfl ?_); refine goesL_ (some 5) rfl rfl Tryd.func48 (by kernel_rfl) rfl #[.pointer (some ⟨gb143, 0, none⟩)] rfl (by (try simp only [List.map_toArray, List.map_cons, List.map_nil]); first | done | rfl | (simp only [List.length_drop, List.length_take]; rfl)) ?_; (with_reducible refine (media_Text_Token.calls k gb143 a0 t144 t145 w _ ?side1 ?side2 A2.out).mono ?_); (case side1 => repeat (first | (with_reducible first | exact HI143.out | apply IsS58.alloc | apply IsS58.drewN | apply IsS58.drew | apply IsS58.set_0) | exact HI143.out)); (case side2 => repeat (first | (with_reducible first | exact HB.out | apply below_alloc | apply pw_below_drewN | apply below_drew1 | refine below_set ?_ (IsS58.ge HI143.out)) | exact HB.out)); rintro e w6 ⟨rfl, hi, hb, hk⟩; refine ⟨_, rfl, ?_⟩; have n0_ := Aside0.mk (hb); have n1_ := Aside0.mk (hi); clear HB; clear HI143; have HB := n0_; have HI143 := n1_; clear n0_ n1_; (try clear hb); (try clear hb2); (try clear hk); (try clear hi)))
    go_ret
    exact ⟨by first | rfl | (simp [errW_none, errW_some, bne_nil_] <;> rfl) | (simp [*, errW_none, errW_some] <;> rfl), by repeat (first | (with_reducible first | exact HB.out | apply below_alloc | apply pw_below_drewN | apply below_drew1 | refine below_set ?_ (IsS58.ge HI143.out)) | exact HB.out)⟩
  · rw [if_neg c3] at H
    have c3b0 : (t144.toList == ([] : List UInt8)) = false := beq_eq_false_iff_ne.mpr c3
    have c3b1 : (t144.toList != ([] : List UInt8)) = true := bne_iff_ne.mpr c3
    obtain rfl := Option.some.inj H
    go_enter Tryd.func57, Tryd.ntmps57
    go_wp2_with (first | ((with_reducible refine gate_dst (N := 3) rfl ?_); refine box_event ?hg (N := 3) ?hd (cs := #[.string (⟨#[]⟩ : ByteArray)]) (t := 58) ?hr ?_; (case hd => rfl); (case hg => rfl); (case hr => first | (go_simp; done) | (go_simp; rfl)); intro gb143 hg w7 hbox hb; have n0_ := Aside0.mk (below_step (by repeat (first | (with_reducible first | exact HB.out | apply below_alloc | apply pw_below_drewN | apply below_drew1) | exact HB.out)) hb); have n1_ := Aside0.mk ((by rw [hg]; exact (below_size (by repeat (first | (with_reducible first | exact HB.out | apply below_alloc | apply pw_below_drewN | apply below_drew1) | exact HB.out))) : w.heap.size ≤ gb143)); have n2_ := Aside0.mk ((by rw [hg]; exact (below_size (by repeat (first | (with_reducible first | exact HB.out | apply below_alloc | apply pw_below_drewN | apply below_drew1) | exact HB.out))) : w.heap.size ≤ gb143)); have n3_ := Aside0.mk ((show IsS58 w w7 gb143 (⟨#[]⟩ : ByteArray) from ⟨hbox, (by rw [hg]; exact (below_size (by repeat (first | (with_reducible first | exact HB.out | apply below_alloc | apply pw_below_drewN | apply below_drew1) | exact HB.out))))⟩)); clear HB; have HB := n0_; have GW143 := n1_; have GE143 := n2_; have HI143 := n3_; clear n0_ n1_ n2_ n3_; clear hb hbox hg; obtain ⟨HGz8, hgz8⟩ := HI143.out; have hcz8_0 := cellS58_0 HGz8; have hfz8_0 := blk_frozen HGz8 0; clear HGz8 hgz8) | ((with_reducible refine gate_callee (f := 48) rfl ?_); refine goesL_ (some 5) rfl rfl Tryd.func48 (by kernel_rfl) rfl #[.pointer (some ⟨gb143, 0, none⟩)] rfl (by (try simp only [List.map_toArray, List.map_cons, List.map_nil]); first | done | rfl | (simp only [List.length_drop, List.length_take]; rfl)) ?_; (with_reducible refine (media_Text_Token.calls k gb143 a0 t144 t145 w _ ?side1 ?side2 A2.out).mono ?_); (case side1 => repeat (first | (with_reducible first | exact HI143.out | apply IsS58.alloc | apply IsS58.drewN | apply IsS58.drew | apply IsS58.set_0) | exact HI143.out)); (case side2 => repeat (first | (with_reducible first | exact HB.out | apply below_alloc | apply pw_below_drewN | apply below_drew1 | refine below_set ?_ (IsS58.ge HI143.out)) | exact HB.out)); rintro e w9 ⟨rfl, hi, hb, hk⟩; refine ⟨_, rfl, ?_⟩; have n0_ := Aside0.mk (hb); have n1_ := Aside0.mk (hi); clear HB; clear HI143; have HB := n0_; have HI143 := n1_; clear n0_ n1_; (try clear hb); (try clear hb2); (try clear hk); (try clear hi); obtain ⟨HGz10, hgz10⟩ := HI143.out; have hcz10_0 := cellS58_0 HGz10; have hfz10_0 := blk_frozen HGz10 0; clear HGz10 hgz10))
    go_ret
    exact ⟨by first | rfl | (simp [errW_none, errW_some, bne_nil_] <;> rfl) | (simp [*, errW_none, errW_some] <;> rfl), by repeat (first | (with_reducible first | exact HB.out | apply below_alloc | apply pw_below_drewN | apply below_drew1 | refine below_set ?_ (IsS58.ge HI143.out)) | exact HB.out)⟩

end Go.Proofs.YteonhdfjfjpbjaaDoor.P
