/- Texts of this seat, joined: lemmas and walks that its statements' proofs use. -/
import Derived.Below
import Derived.Maps.Own
import Derived.WideAt
import Derived.WideShapes
import Derived.Maps.Views
import Derived.Sort.KeysCollected
import Derived.Test.YtfpbpakgajddnaaGreatDoorProg
import Derived.WalkKit
import Derived.Maps.OwnSet
import Derived.Defers
import Derived.Recover
import Derived.Laws.Pointers
import Derived.WalkSmall
import Derived.Shelf.Strings.Builder1
import Derived.Shelf.Strings.Builder2
import Derived.Shelf.Strings.OnBuilder
import Derived.Shelf.Small.Bits
import Derived.Shelf.Strings.BuilderF
import Derived.Shelf.Strings.BuilderK
import Derived.Shelf.Strconv.Atoi
import Derived.Shelf.Strconv.Itoa0
import Derived.Shelf.Strconv.Itoa1
import Derived.Shelf.LaysM
import Derived.Shelf.Strconv.Itoa2
import Derived.Shelf.Strconv.Itoa3
import Derived.Shelf.Strconv.AtoiErrFast
import Derived.Shelf.Strconv.ParseIntEmpty
import Derived.Shelf.Strconv.AtoiFail
import Derived.Shelf.Strconv.Clone
import Derived.Shelf.Strconv.SyntaxError
import Derived.Shelf.LaysC
import Derived.Shelf.Strconv.ToError
import Derived.Shelf.Strconv.Lower
import Derived.Shelf.Strconv.ParseUint10
import Derived.Shelf.Strconv.ParseUint10Empty
import Derived.Shelf.Strconv.ParseUint10Any
import Derived.Shelf.Strconv.ParseInt10
import Derived.Shelf.Strconv.AtoiLong
import Derived.Shelf.Strconv.AtoiInnerAll
import Derived.Shelf.Strconv.RangeError
import Derived.Shelf.Strconv.ToErrorRange
import Derived.Shelf.Strconv.AtoiAll
import Derived.Shelf.Strconv.ErrVarAll
import Derived.Shelf.Strings.Search1
import Derived.Shelf.Strings.Search2
import Derived.Shelf.Strings.Search3
import Derived.Shelf.Strings.Count
import Derived.Shelf.Strings.Shaped
import Derived.Shelf.GgClosure.StringsIndexFunc
import Derived.Ground.GgwProg
import Derived.Shelf.GgClosure.StringsIndexFuncTop
import Derived.Shelf.Strings.Prefix
import Derived.Shelf.Strings.Split
import Derived.Shelf.Unicode.DecodeSlow
import Derived.Ground.SlgmProg
import Derived.Shelf.SortM.Plain
import Derived.Shelf.SortM.SortNone
/- PlW -/
namespace Go.Proofs.YtfpbpakgajddnaaGreatDoor.Pl
open Go Go.RowKit
set_option linter.unusedVariables false
set_option linter.unusedSimpArgs false
/-- Of what was there, only blocks of F have turned. -/
structure Tch (F : Nat → Prop) (w w' : World) : Prop where
  os : w'.os = w.os
  tape : w'.tape = w.tape
  output : w'.output = w.output
  size : w.heap.size ≤ w'.heap.size
  block : ∀ k, k < w.heap.size → ¬ F k → w'.heap[k]? = w.heap[k]?
theorem Tch.refl (F : Nat → Prop) (w : World) : Tch F w w := ⟨rfl, rfl, rfl, Nat.le_refl _, fun _ _ _ => rfl⟩
theorem Tch.trans {F G : Nat → Prop} {a b c : World} (h : Tch F a b) (g : Tch G b c) (hG : ∀ k, G k → F k ∨ a.heap.size ≤ k) : Tch F a c :=
 ⟨g.os.trans h.os, g.tape.trans h.tape, g.output.trans h.output, Nat.le_trans h.size g.size, fun k hk hF => (g.block k (Nat.lt_of_lt_of_le hk h.size) (fun hg => (hG k hg).elim hF (by omega))).trans (h.block k hk hF)⟩
theorem Tch.mono {F G : Nat → Prop} {a b : World} (h : Tch F a b) (hG : ∀ k, F k → k < a.heap.size → G k) : Tch G a b :=
 ⟨h.os, h.tape, h.output, h.size, fun k hk hn => h.block k hk (fun hF => hn (hG k hF hk))⟩
theorem Tch.of_below {F : Nat → Prop} {a b : World} (h : Below a.heap.size a b) : Tch F a b := ⟨h.os, h.tape, h.output, h.size, fun k hk _ => h.block k hk⟩
theorem Tch.of_grown {F : Nat → Prop} {a b : World} {row : Option Nat} (h : a.grownBy b row) (hr : ∀ k, row = some k → F k ∨ a.heap.size ≤ k) : Tch F a b :=
 ⟨h.os, h.tape, h.output, h.size, fun k hk hF => h.block k hk (fun e => (hr k e.symm).elim hF (by omega))⟩
theorem Tch.alloc (F : Nat → Prop) (w : World) (o : Obj) : Tch F w (w.alloc o) := .of_below ((Below.refl _ w).alloc (Nat.le_refl _) o)
theorem Tch.drew (F : Nat → Prop) (w : World) : Tch F w w.drew := ⟨rfl, rfl, rfl, Nat.le_refl _, fun _ _ _ => rfl⟩
theorem Tch.setCell {F : Nat → Prop} (w : World) {p : Addr} (u : Value) (hF : F p.block) : Tch F w (w.setCell p u) :=
 ⟨rfl, rfl, rfl, by simp [World.setCell], fun k hk hn => Below.heap_setCell _ _ _ _ (fun e => hn (e ▸ hF))⟩
theorem Tch.andAlloc {F : Nat → Prop} {a b : World} (h : Tch F a b) (o : Obj) : Tch F a (b.alloc o) := h.trans (Tch.alloc (fun _ => False) b o) (fun _ h => h.elim)
theorem Tch.andSet {F : Nat → Prop} {a b : World} (h : Tch F a b) {p : Addr} (u : Value) (hp : F p.block ∨ a.heap.size ≤ p.block) : Tch F a (b.setCell p u) :=
 h.trans (G := fun k => k = p.block) (Tch.setCell b u rfl) (fun k e => e ▸ hp)
theorem Tch.andBelow {F : Nat → Prop} {a b c : World} (h : Tch F a b) (g : Below b.heap.size b c) : Tch F a c := h.trans (Tch.of_below (F := fun _ => False) g) (fun _ h => h.elim)
theorem Tch.andGrown {F : Nat → Prop} {a b c : World} {row : Option Nat} (h : Tch F a b) (g : b.grownBy c row) (hr : ∀ k, row = some k → F k ∨ a.heap.size ≤ k) : Tch F a c :=
 h.trans (G := fun k => row = some k) (.of_grown g (fun k e => .inl e)) hr
theorem Tch.drewA {F : Nat → Prop} {a b : World} (h : Tch F a b) : Tch F a b.drew := ⟨h.os, h.tape, h.output, h.size, h.block⟩
theorem Tch.below {F : Nat → Prop} {w w' : World} {B : Nat} (h : Tch F w w') (hB : B ≤ w.heap.size) (hF : ∀ k, F k → B ≤ k) : Below B w w' :=
 ⟨h.os, h.tape, h.output, h.size, fun k hk => h.block k (by omega) (fun hf => by have := hF k hf; omega)⟩
/-- The set of an object's blocks behind a call: nothing but blocks of before and new ones. -/
def Ext (w : World) (F F' : Nat → Prop) : Prop := ∀ k, F' k → F k ∨ w.heap.size ≤ k
theorem Ext.refl (w : World) (F : Nat → Prop) : Ext w F F := fun _ h => .inl h
theorem Ext.trans {w w' : World} {F G H : Nat → Prop} (h : Ext w F G) (hs : w.heap.size ≤ w'.heap.size) (g : Ext w' G H) : Ext w F H :=
 fun k hk => (g k hk).elim (fun x => h k x) (fun x => .inr (Nat.le_trans hs x))
theorem Tch.next {F G : Nat → Prop} {a b c : World} (h : Tch F a b) (hE : Ext a F G) (g : Tch G b c) : Tch F a c := h.trans g hE
theorem cell_at {w : World} {b : Nat} {cs : Array Value} {t : TypeId} {z : Nat × Nat} (h : w.heap[b]? = some (.cells cs t z)) (i : Nat) : w.cell? ⟨b, i, none⟩ = cs[i]? := by
 unfold World.cell?
 rw [h]
 rfl
theorem melt_at {w : World} {b : Nat} {cs : Array Value} {t : TypeId} (h : w.heap[b]? = some (.cells cs t (0, 0))) (i : Nat) : w.frozen? ⟨b, i, none⟩ = false := by
 unfold World.frozen?
 rw [h]
 simp
theorem set_same {w : World} {b : Nat} {cs : Array Value} {t : TypeId} {z : Nat × Nat} (h : w.heap[b]? = some (.cells cs t z)) (i : Nat) (u : Value) : (w.setCell ⟨b, i, none⟩ u).heap[b]? = some (.cells (cs.setIfInBounds i u) t z) := by
 simp [World.setCell, Array.getElem?_modify, h]
theorem set_other {w : World} {b k : Nat} (i : Nat) (u : Value) (hk : k ≠ b) : (w.setCell ⟨b, i, none⟩ u).heap[k]? = w.heap[k]? := Below.heap_setCell _ _ _ _ hk
theorem alloc_old {w : World} {k : Nat} {o x : Obj} (h : w.heap[k]? = some x) : (w.alloc o).heap[k]? = some x := by
 rw [Below.heap_alloc _ _ _ (Array.getElem?_eq_some_iff.1 h).1]
 exact h
theorem alloc_new (w : World) (o : Obj) : (w.alloc o).heap[w.heap.size]? = some o := by
 show (w.heap.push o)[w.heap.size]? = _
 simp
theorem blk_lt {w : World} {k : Nat} {x : Obj} (h : w.heap[k]? = some x) : k < w.heap.size := (Array.getElem?_eq_some_iff.1 h).1
theorem Tch.keep {F : Nat → Prop} {w w' : World} (h : Tch F w w') {k : Nat} {x : Obj} (hk : w.heap[k]? = some x) (hF : ¬ F k) : w'.heap[k]? = some x := (h.block k (blk_lt hk) hF).trans hk
/-- A map's block, where it stays. -/
theorem map_move {H : Type} {P : Program} {k : TypeId} {R : Value → Option (DataW H × List MemPlace)} {w w' : World} {b n : Nat} {D : DataW H} (h : w.ownsMap P k R b n D) (hb : w'.heap[b]? = w.heap[b]?) : w'.ownsMap P k R b n D := by
 obtain ⟨es, clock, h1, h2, h3, h4⟩ := h
 exact ⟨es, clock, hb.trans h1, h2, h3, h4⟩
theorem map_count {H : Type} {P : Program} {k : TypeId} {R : Value → Option (DataW H × List MemPlace)} {w : World} {b n : Nat} {es : List (Lit × DataW H)} (h : w.ownsMap P k R b n (.map es)) : w.ownsMap P k R b es.length (.map es) := by
 obtain ⟨xs, clock, h1, h2, h3, h4⟩ := h
 refine ⟨xs, clock, h1, h2, ?_, h4⟩
 have : es = (xs.toList.map (WideElems.rg P k R)).foldr DataW.insert [] := by injection h4
 rw [this, length_sorted]
 simp
end Go.Proofs.YtfpbpakgajddnaaGreatDoor.Pl
/- PlM -/
namespace Go.Proofs.YtfpbpakgajddnaaGreatDoor.Pl
open Go
set_option linter.unusedVariables false
set_option linter.unusedSimpArgs false
abbrev L := List UInt8
structure Fil where
  safe : L
  loose : L
def Fil.all (f : Fil) : L := f.safe ++ f.loose
abbrev Dir := List (L × Nat)
abbrev Stp := L × Option Nat
structure Mach where
  files : List Fil
  safe : Dir
  steps : List Stp
  power : Int
  room : Int
def ins (x : L × Nat) : Dir → Dir
  | [] => [x]
  | y :: r => if bytesBefore x.1 y.1 then x :: y :: r else y :: ins x r
def rid (n : L) (d : Dir) : Dir := d.filter fun p => !(p.1 == n)
def put (d : Dir) (s : Stp) : Dir := match s.2 with
  | none => rid s.1 d
  | some k => ins (s.1, k) (rid s.1 d)
def after (d : Dir) (l : List Stp) : Dir := l.foldl put d
def Mach.now (m : Mach) : Dir := after m.safe m.steps
def look (d : Dir) (n : L) : Option Nat := (d.find? fun p => p.1 == n).map (·.2)
def Mach.find (m : Mach) (n : L) : Option Nat := look m.now n
def fileAt (fs : List Fil) (k : Nat) : Fil := fs.getD k ⟨[], []⟩
def nameB (c : UInt8) : Bool := decide (48 ≤ c.toNat ∧ c.toNat ≤ 57) || decide (97 ≤ c.toNat ∧ c.toNat ≤ 122) || c == 46 || c == 45
def nameOk (s : L) : Bool := !s.isEmpty && decide (s.length ≤ 32) && s.all nameB
def used (fs : List Fil) (d : Dir) : Nat := d.foldl (fun n p => n + (fileAt fs p.2).all.length) 0
def spend (p : Int) : Int := max (p - 1) (-1)
def fresh (room : Int) : Mach := ⟨[], [], [], -1, room⟩
def create (m : Mach) (n : L) : Int × Mach :=
  if nameOk n = false then (1, m)
  else if (m.find n).isSome then (11, m)
  else if 200 ≤ m.now.length then (12, m)
  else if m.power = 0 then (13, m)
  else (0, { m with files := m.files ++ [⟨[], []⟩], steps := m.steps ++ [(n, some m.files.length)], power := spend m.power })
def write (m : Mach) (n s : L) : Int × Mach := match m.find n with
  | none => (10, m)
  | some k =>
    if m.room - used m.files m.now < s.length then (12, m)
    else if m.power = 0 then (13, m)
    else (0, { m with files := m.files.set k ⟨(fileAt m.files k).safe, (fileAt m.files k).loose ++ s⟩, power := spend m.power })
def sync (m : Mach) (n : L) : Int × Mach := match m.find n with
  | none => (10, m)
  | some k =>
    if m.power = 0 then (13, m)
    else (0, { m with files := m.files.set k ⟨(fileAt m.files k).all, []⟩, power := spend m.power })
def rename (m : Mach) (a b : L) : Int × Mach := match m.find a with
  | none => (10, m)
  | some k =>
    if nameOk b = false then (1, m)
    else if m.power = 0 then (13, m)
    else (0, { m with steps := if a = b then m.steps else m.steps ++ [(b, some k), (a, none)], power := spend m.power })
def remove (m : Mach) (n : L) : Int × Mach := match m.find n with
  | none => (10, m)
  | some _ =>
    if m.power = 0 then (13, m)
    else (0, { m with steps := m.steps ++ [(n, none)], power := spend m.power })
def syncDir (m : Mach) : Int × Mach :=
  if m.power = 0 then (13, m) else (0, { m with safe := m.now, steps := [], power := spend m.power })
def read (m : Mach) (n : L) : L × Int := match m.find n with
  | none => ([], 10)
  | some k => ((fileAt m.files k).all, 0)
def list (m : Mach) : List L := m.now.map (·.1)
def limit (m : Mach) (n : Int) : Mach := { m with power := max n (-1) }
def clamp (x : Int) (n : Nat) : Nat := (max 0 (min x n)).toNat
def crash (m : Mach) (steps bytes : Int) : Mach :=
  { m with safe := after m.safe (m.steps.take (clamp steps m.steps.length)), steps := [], power := -1,
           files := m.files.map fun f => ⟨f.safe ++ f.loose.take (clamp bytes f.loose.length), []⟩ }
def Sorted (d : Dir) : Prop := d.Pairwise fun a b => bytesBefore a.1 b.1 = true
theorem before_ne {a b : L} (h : bytesBefore a b = true) : a ≠ b := by
 rintro rfl
 rw [WideAt.bytes_irrefl] at h
 cases h
theorem mem_rid {n : L} {d : Dir} {p : L × Nat} : p ∈ rid n d ↔ p ∈ d ∧ p.1 ≠ n := by
 unfold rid
 rw [List.mem_filter]
 simp
theorem mem_ins {x p : L × Nat} : ∀ {d : Dir}, p ∈ ins x d ↔ p = x ∨ p ∈ d
 | [] => by simp [ins]
 | y :: r => by
  unfold ins
  split
  ·simp
  ·rw [List.mem_cons, mem_ins, List.mem_cons]
   constructor
   ·rintro (h | h | h)
    ·exact .inr (.inl h)
    ·exact .inl h
    ·exact .inr (.inr h)
   ·rintro (h | h | h)
    ·exact .inr (.inl h)
    ·exact .inl h
    ·exact .inr (.inr h)
theorem ins_len (x : L × Nat) : ∀ d : Dir, (ins x d).length = d.length + 1
 | [] => rfl
 | y :: r => by
  unfold ins
  split
  ·rfl
  ·rw [List.length_cons, ins_len x r]; rfl
theorem sorted_rid {n : L} {d : Dir} (h : Sorted d) : Sorted (rid n d) := List.Pairwise.filter _ h
theorem sorted_ins {x : L × Nat} : ∀ {d : Dir}, Sorted d → (∀ p ∈ d, p.1 ≠ x.1) → Sorted (ins x d)
 | [], _, _ => by simp [ins, Sorted]
 | y :: r, h, hx => by
  have h1 := List.pairwise_cons.1 h
  unfold ins
  split
  ·rename_i hb
   refine List.pairwise_cons.2 ⟨fun p hp => ?_, h⟩
   rcases List.mem_cons.1 hp with rfl | hp
   ·exact hb
   ·exact WideShapes.bytes_trans _ _ _ hb (h1.1 p hp)
  ·rename_i hb
   refine List.pairwise_cons.2 ⟨fun p hp => ?_, sorted_ins h1.2 (fun p hp => hx p (List.mem_cons_of_mem _ hp))⟩
   rcases mem_ins.1 hp with rfl | hp
   ·rcases WideAt.bytes_total y.1 p.1 (hx y List.mem_cons_self) with h2 | h2
    ·exact h2
    ·exact absurd h2 hb
   ·exact h1.1 p hp
theorem sorted_put {d : Dir} (h : Sorted d) (s : Stp) : Sorted (put d s) := by
 unfold put
 split
 ·exact sorted_rid h
 ·exact sorted_ins (sorted_rid h) (fun p hp => (mem_rid.1 hp).2)
theorem sorted_after : ∀ (l : List Stp) {d : Dir}, Sorted d → Sorted (after d l)
 | [], _, h => h
 | s :: l, d, h => sorted_after l (sorted_put h s)
theorem after_append (d : Dir) (a b : List Stp) : after d (a ++ b) = after (after d a) b := List.foldl_append
theorem mem_put {d : Dir} {s : Stp} {p : L × Nat} : p ∈ put d s ↔ (s.2 = some p.2 ∧ p.1 = s.1) ∨ (p ∈ d ∧ p.1 ≠ s.1) := by
 obtain ⟨n, o⟩ := s
 unfold put
 cases o with
 | none => simp [mem_rid]
 | some k =>
  simp only [mem_ins, mem_rid]
  constructor
  ·rintro (rfl | h)
   ·exact .inl ⟨rfl, rfl⟩
   ·exact .inr h
  ·rintro (⟨h1, h2⟩ | h)
   ·exact .inl (by obtain ⟨a, b⟩ := p; simp at h1 h2; rw [h1, h2])
   ·exact .inr h
theorem sorted_inj : ∀ {d : Dir}, Sorted d → ∀ {n : L} {k j : Nat}, (n, k) ∈ d → (n, j) ∈ d → k = j
 | [], _, _, _, _, h, _ => by simp at h
 | x :: d, h, n, k, j, hk, hj => by
  have h1 := List.pairwise_cons.1 h
  rcases List.mem_cons.1 hk with e1 | k1
  ·rcases List.mem_cons.1 hj with e2 | j1
   ·have := congrArg Prod.snd (e1.trans e2.symm)
    exact this
   ·subst e1
    exact (before_ne (h1.1 (n, j) j1) rfl).elim
  ·rcases List.mem_cons.1 hj with e2 | j1
   ·subst e2
    exact (before_ne (h1.1 (n, k) k1) rfl).elim
   ·exact sorted_inj h1.2 k1 j1
theorem look_mem {d : Dir} {n : L} {k : Nat} (h : look d n = some k) : (n, k) ∈ d := by
 unfold look at h
 obtain ⟨p, hp, rfl⟩ := Option.map_eq_some_iff.1 h
 have h1 := List.mem_of_find?_eq_some hp
 have h2 := List.find?_some hp
 have : p.1 = n := by simpa using h2
 rw [← this]
 exact h1
theorem look_iff {d : Dir} (hs : Sorted d) {n : L} {k : Nat} : look d n = some k ↔ (n, k) ∈ d := by
 refine ⟨look_mem, fun h => ?_⟩
 cases hl : look d n with
 | none =>
  unfold look at hl
  rw [Option.map_eq_none_iff, List.find?_eq_none] at hl
  exact absurd (by simp) (hl _ h)
 | some j => rw [sorted_inj hs h (look_mem hl)]
theorem look_none {d : Dir} {n : L} : look d n = none ↔ ∀ k, (n, k) ∉ d := by
 constructor
 ·intro h k hk
  unfold look at h
  rw [Option.map_eq_none_iff, List.find?_eq_none] at h
  exact h _ hk (by simp)
 ·intro h
  cases hl : look d n with
  | none => rfl
  | some k => exact absurd (look_mem hl) (h k)
theorem rid_len (n : L) (d : Dir) : (rid n d).length ≤ d.length := List.length_filter_le _ _
theorem put_len (d : Dir) (s : Stp) : (put d s).length ≤ d.length + 1 := by
 unfold put
 split
 ·exact Nat.le_trans (rid_len _ _) (Nat.le_succ _)
 ·rw [ins_len]
  have := rid_len s.1 d
  omega
theorem after_len : ∀ (l : List Stp) (d : Dir), (after d l).length ≤ d.length + l.length
 | [], _ => Nat.le_refl _
 | s :: l, d => by
  have h1 := after_len l (put d s)
  have h2 := put_len d s
  show (after (put d s) l).length ≤ _
  rw [List.length_cons]
  omega
/-- What stands in a directory behind steps stood there ahead, or a step put it there. -/
theorem mem_after : ∀ (l : List Stp) (d : Dir) (p : L × Nat), p ∈ after d l → p ∈ d ∨ (p.1, some p.2) ∈ l
 | [], _, _, h => .inl h
 | s :: l, d, p, h => by
  rcases mem_after l (put d s) p h with h1 | h1
  ·rcases mem_put.1 h1 with ⟨h2, h3⟩ | ⟨h2, _⟩
   ·right
    rw [h3, ← h2]
    exact List.mem_cons_self
   ·exact .inl h2
  ·exact .inr (List.mem_cons_of_mem _ h1)
structure Inv (C : Nat) (m : Mach) : Prop where
  sorted : Sorted m.safe
  keyS : ∀ p ∈ m.safe, p.2 < m.files.length
  keyT : ∀ s ∈ m.steps, ∀ k, s.2 = some k → k < m.files.length
  size : ∀ f ∈ m.files, (f.all.length : Int) ≤ m.room
  room0 : 0 ≤ m.room
  room1 : m.room ≤ 4194304
  pow0 : -1 ≤ m.power
  pow1 : m.power ≤ 9223372036854775807
  count : m.safe.length + m.steps.length ≤ C
  many : m.files.length ≤ C
theorem Inv.mono {C C' : Nat} {m : Mach} (h : Inv C m) (hC : C ≤ C') : Inv C' m := ⟨h.sorted, h.keyS, h.keyT, h.size, h.room0, h.room1, h.pow0, h.pow1, Nat.le_trans h.count hC, Nat.le_trans h.many hC⟩
theorem Inv.now_sorted {C : Nat} {m : Mach} (h : Inv C m) : Sorted m.now := sorted_after _ h.sorted
theorem Inv.now_key {C : Nat} {m : Mach} (h : Inv C m) : ∀ p ∈ m.now, p.2 < m.files.length := by
 intro p hp
 rcases mem_after _ _ p hp with h1 | h1
 ·exact h.keyS p h1
 ·exact h.keyT _ h1 _ rfl
theorem Inv.now_len {C : Nat} {m : Mach} (h : Inv C m) : m.now.length ≤ C := Nat.le_trans (after_len _ _) h.count
theorem spend_ge {p : Int} (h : -1 ≤ p) (h0 : p ≠ 0) : -1 ≤ spend p ∧ spend p ≤ p := by unfold spend; omega
theorem now_snoc (m : Mach) (s : Stp) : after m.safe (m.steps ++ [s]) = put m.now s := by rw [after_append]; rfl
theorem fileAt_mem {fs : List Fil} {k : Nat} (h : k < fs.length) : fileAt fs k ∈ fs := by
 unfold fileAt
 rw [List.getD_eq_getElem?_getD, List.getElem?_eq_getElem h]
 exact List.getElem_mem h
theorem fresh_inv (room : Int) (h0 : 0 ≤ room) (h1 : room ≤ 4194304) (C : Nat) : Inv C (fresh room) :=
 ⟨List.Pairwise.nil, fun p hp => by simp [fresh] at hp, fun s hs => by simp [fresh] at hs, fun f hf => by simp [fresh] at hf, h0, h1, by simp [fresh], by simp [fresh], by simp [fresh], by simp [fresh]⟩
theorem create_inv {C : Nat} {m : Mach} (h : Inv C m) (n : L) : Inv (C + 2) (create m n).2 := by
 have hm := h.mono (C' := C + 2) (by omega)
 unfold create
 split
 ·exact hm
 ·split
  ·exact hm
  ·split
   ·exact hm
   ·split
    ·exact hm
    ·rename_i hp
     have hsp := spend_ge h.pow0 hp
     have hp1 := h.pow1
     have hc := h.count
     have hmn := h.many
     refine ⟨h.sorted, fun p hp => ?_, fun s hs k hk => ?_, fun f hf => ?_, h.room0, h.room1, hsp.1, by show spend m.power ≤ _; omega, ?_, ?_⟩
     ·have := h.keyS p hp
      show p.2 < (m.files ++ [(⟨[], []⟩ : Fil)]).length
      rw [List.length_append]; omega
     ·show k < (m.files ++ [(⟨[], []⟩ : Fil)]).length
      rw [List.length_append, List.length_singleton]
      rcases List.mem_append.1 hs with hs | hs
      ·have := h.keyT s hs k hk; omega
      ·rw [List.mem_singleton.1 hs] at hk
       have := Option.some.inj hk
       omega
     ·rcases List.mem_append.1 hf with hf | hf
      ·exact h.size f hf
      ·rw [List.mem_singleton.1 hf]
       exact h.room0
     ·show m.safe.length + (m.steps ++ [(n, some m.files.length)]).length ≤ C + 2
      rw [List.length_append, List.length_singleton]; omega
     ·show (m.files ++ [(⟨[], []⟩ : Fil)]).length ≤ C + 2
      rw [List.length_append, List.length_singleton]; omega
theorem used_from (fs : List Fil) : ∀ (d : Dir) (n : Nat), d.foldl (fun n p => n + (fileAt fs p.2).all.length) n = n + used fs d
 | [], n => rfl
 | p :: d, n => by
  unfold used
  rw [List.foldl_cons, List.foldl_cons, used_from fs d, used_from fs d]
  omega
theorem used_cons (fs : List Fil) (p : L × Nat) (d : Dir) : used fs (p :: d) = (fileAt fs p.2).all.length + used fs d := by
 rw [used, List.foldl_cons, used_from]
 omega
theorem used_ge (fs : List Fil) : ∀ {d : Dir} {p : L × Nat}, p ∈ d → (fileAt fs p.2).all.length ≤ used fs d
 | q :: d, p, h => by
  rw [used_cons]
  rcases List.mem_cons.1 h with rfl | h
  ·omega
  ·have := used_ge fs h
   omega
theorem used_le {C : Nat} {m : Mach} (h : Inv C m) : ∀ (d : Dir), (∀ p ∈ d, p.2 < m.files.length) → used m.files d ≤ d.length * 4194304
 | [], _ => by simp [used]
 | p :: d, hd => by
  have h1 := used_le h d (fun q hq => hd q (List.mem_cons_of_mem _ hq))
  have h2 := h.size _ (fileAt_mem (hd p List.mem_cons_self))
  have h3 := h.room1
  rw [used_cons, List.length_cons]
  omega
theorem set_size {fs : List Fil} {k : Nat} {f : Fil} {R : Int} (h : ∀ f ∈ fs, (f.all.length : Int) ≤ R) (hf : (f.all.length : Int) ≤ R) : ∀ g ∈ fs.set k f, (g.all.length : Int) ≤ R := by
 intro g hg
 rcases List.mem_or_eq_of_mem_set hg with h1 | rfl
 ·exact h g h1
 ·exact hf
theorem write_inv {C : Nat} {m : Mach} (h : Inv C m) (n s : L) : Inv C (write m n s).2 := by
 unfold write
 split
 ·exact h
 ·rename_i k hk
  split
  ·exact h
  ·rename_i hr
   split
   ·exact h
   ·rename_i hp
    have hsp := spend_ge h.pow0 hp
    have hp1 := h.pow1
    have hu := used_ge m.files (look_mem hk)
    have hu' : (fileAt m.files k).all.length ≤ used m.files m.now := hu
    refine ⟨h.sorted, fun p hp => ?_, fun s hs k hk => ?_, set_size h.size ?_, h.room0, h.room1, hsp.1, by show spend m.power ≤ _; omega, h.count, ?_⟩
    ·show p.2 < (m.files.set _ _).length
     rw [List.length_set]; exact h.keyS p hp
    ·show k < (m.files.set _ _).length
     rw [List.length_set]; exact h.keyT s hs k hk
    ·unfold Fil.all at hu' ⊢
     rw [List.length_append] at hu' ⊢
     rw [List.length_append]
     show ((fileAt m.files k).safe.length + ((fileAt m.files k).loose.length + s.length) : Nat) ≤ m.room
     omega
    ·show (m.files.set _ _).length ≤ C
     rw [List.length_set]; exact h.many
theorem sync_inv {C : Nat} {m : Mach} (h : Inv C m) (n : L) : Inv C (sync m n).2 := by
 unfold sync
 split
 ·exact h
 ·rename_i k hk
  split
  ·exact h
  ·rename_i hp
   have hsp := spend_ge h.pow0 hp
   have hp1 := h.pow1
   have hkl : k < m.files.length := h.now_key _ (look_mem hk)
   refine ⟨h.sorted, fun p hp => ?_, fun s hs k hk => ?_, set_size h.size ?_, h.room0, h.room1, hsp.1, by show spend m.power ≤ _; omega, h.count, ?_⟩
   ·show p.2 < (m.files.set _ _).length
    rw [List.length_set]; exact h.keyS p hp
   ·show k < (m.files.set _ _).length
    rw [List.length_set]; exact h.keyT s hs k hk
   ·have := h.size _ (fileAt_mem hkl)
    show (((fileAt m.files k).all ++ []).length : Int) ≤ _
    rw [List.append_nil]; exact this
   ·show (m.files.set _ _).length ≤ C
    rw [List.length_set]; exact h.many
theorem rename_inv {C : Nat} {m : Mach} (h : Inv C m) (a b : L) : Inv (C + 2) (rename m a b).2 := by
 have hm := h.mono (C' := C + 2) (by omega)
 unfold rename
 split
 ·exact hm
 ·rename_i k hk
  have hkl : k < m.files.length := h.now_key _ (look_mem hk)
  split
  ·exact hm
  ·split
   ·exact hm
   ·rename_i hp
    have hsp := spend_ge h.pow0 hp
    have hp1 := h.pow1
    have hc := h.count
    refine ⟨h.sorted, h.keyS, fun s hs j hj => ?_, h.size, h.room0, h.room1, hsp.1, by show spend m.power ≤ _; omega, ?_, by have := h.many; show m.files.length ≤ _; omega⟩
    ·show j < m.files.length
     have hs' : s ∈ (if a = b then m.steps else m.steps ++ [(b, some k), (a, none)]) := hs
     split at hs'
     ·exact h.keyT s hs' j hj
     ·rcases List.mem_append.1 hs' with hs' | hs'
      ·exact h.keyT s hs' j hj
      ·simp at hs'
       rcases hs' with rfl | rfl
       ·have := Option.some.inj hj; omega
       ·cases hj
    ·show m.safe.length + (if a = b then m.steps else m.steps ++ [(b, some k), (a, none)]).length ≤ C + 2
     split
     ·omega
     ·rw [List.length_append]; simp; omega
theorem remove_inv {C : Nat} {m : Mach} (h : Inv C m) (n : L) : Inv (C + 2) (remove m n).2 := by
 have hm := h.mono (C' := C + 2) (by omega)
 unfold remove
 split
 ·exact hm
 ·split
  ·exact hm
  ·rename_i hp
   have hsp := spend_ge h.pow0 hp
   have hp1 := h.pow1
   have hc := h.count
   refine ⟨h.sorted, h.keyS, fun s hs j hj => ?_, h.size, h.room0, h.room1, hsp.1, by show spend m.power ≤ _; omega, ?_, by have := h.many; show m.files.length ≤ _; omega⟩
   ·rcases List.mem_append.1 hs with hs | hs
    ·exact h.keyT s hs j hj
    ·rw [List.mem_singleton.1 hs] at hj
     cases hj
   ·show m.safe.length + (m.steps ++ [(n, none)]).length ≤ C + 2
    rw [List.length_append, List.length_singleton]; omega
theorem syncDir_inv {C : Nat} {m : Mach} (h : Inv C m) : Inv C (syncDir m).2 := by
 unfold syncDir
 split
 ·exact h
 ·rename_i hp
  have hsp := spend_ge h.pow0 hp
  have hp1 := h.pow1
  exact ⟨h.now_sorted, h.now_key, fun s hs => by simp at hs, h.size, h.room0, h.room1, hsp.1, by show spend m.power ≤ _; omega, by have := h.now_len; simpa using this, h.many⟩
theorem limit_inv {C : Nat} {m : Mach} (h : Inv C m) (n : Int) (hn : n ≤ 9223372036854775807) : Inv C (limit m n) :=
 ⟨h.sorted, h.keyS, h.keyT, h.size, h.room0, h.room1, by show -1 ≤ max n (-1); omega, by show max n (-1) ≤ _; omega, h.count, h.many⟩
theorem crash_inv {C : Nat} {m : Mach} (h : Inv C m) (s b : Int) : Inv C (crash m s b) := by
 have ht : (m.steps.take (clamp s m.steps.length)).length ≤ m.steps.length := List.length_take_le' _ _
 refine ⟨sorted_after _ h.sorted, fun p hp => ?_, fun s hs => by simp [crash] at hs, fun f hf => ?_, h.room0, h.room1, by simp [crash], by simp [crash], ?_, ?_⟩
 ·show p.2 < (m.files.map _).length
  rw [List.length_map]
  rcases mem_after _ _ p hp with h1 | h1
  ·exact h.keyS p h1
  ·exact h.keyT _ (List.mem_of_mem_take h1) _ rfl
 ·obtain ⟨g, hg, rfl⟩ := List.mem_map.1 hf
  have h1 := h.size g hg
  show (((g.safe ++ g.loose.take _) ++ []).length : Int) ≤ m.room
  unfold Fil.all at h1
  rw [List.length_append] at h1
  rw [List.append_nil, List.length_append, List.length_take]
  omega
 ·have h1 := after_len (m.steps.take (clamp s m.steps.length)) m.safe
  have h2 := h.count
  show (after m.safe (m.steps.take (clamp s m.steps.length))).length + ([] : List Stp).length ≤ C
  simp only [List.length_nil]
  omega
 ·show (m.files.map _).length ≤ C
  rw [List.length_map]; exact h.many
end Go.Proofs.YtfpbpakgajddnaaGreatDoor.Pl
/- PlD -/
namespace Go.Proofs.YtfpbpakgajddnaaGreatDoor.Pl
open Go Go.Maps
set_option linter.unusedVariables false
set_option linter.unusedSimpArgs false
/-- How an element of a map (a pointer) reads: as itself. -/
def rawE : Value → Option (DataW Value × List MemPlace)
  | .pointer q => some (.held (.pointer q), [])
  | _ => none
theorem rawE_inv {v : Value} {y : DataW Value × List MemPlace} (h : rawE v = some y) : ∃ q, v = .pointer q ∧ y = (.held (.pointer q), []) := by
 cases v <;> simp [rawE] at h
 exact ⟨_, rfl, h.symm⟩
def ptrK (K : Nat → Addr) (k : Nat) : DataW Value := .held (.pointer (some (K k)))
def ent (K : Nat → Addr) (p : L × Nat) : Lit × DataW Value := (.string p.1, ptrK K p.2)
def dirD (K : Nat → Addr) (d : Dir) : DataW Value := .map (d.map (ent K))
theorem same_str (a b : L) : (Lit.string a).sameKey (.string b) = (a == b) := rfl
theorem filter_dir (K : Nat → Addr) (n : L) (d : Dir) : (d.map (ent K)).filter (fun p => !p.1.sameKey (.string n)) = (rid n d).map (ent K) := by
 unfold rid
 rw [List.filter_map]
 rfl
theorem ins_dir (K : Nat → Addr) (x : L × Nat) : ∀ d : Dir, DataW.insert (ent K x) (d.map (ent K)) = (ins x d).map (ent K)
 | [] => rfl
 | y :: r => by
  unfold ins
  rw [List.map_cons, DataW.insert]
  have : (ent K x).1.before (ent K y).1 = bytesBefore x.1 y.1 := rfl
  rw [this]
  split
  ·rfl
  ·rw [ins_dir K x r]; rfl
theorem dir_put (K : Nat → Addr) (d : Dir) (n : L) (k : Nat) : (dirD K d).put (.string n) (ptrK K k) = dirD K (ins (n, k) (rid n d)) := by
 unfold dirD DataW.put
 simp only
 rw [filter_dir]
 exact congrArg _ (ins_dir K (n, k) (rid n d))
theorem dir_del (K : Nat → Addr) (d : Dir) (n : L) : (dirD K d).del (.string n) = dirD K (rid n d) := by
 unfold dirD DataW.del
 simp only
 rw [filter_dir]
theorem dir_at (K : Nat → Addr) (d : Dir) (n : L) (z : DataW Value) : (dirD K d).atKey (.string n) z = match look d n with
  | some k => ptrK K k
  | none => z := by
 unfold dirD DataW.atKey look
 simp only
 rw [List.find?_map]
 have : ((fun p : Lit × DataW Value => p.1.sameKey (.string n)) ∘ ent K) = fun p : L × Nat => p.1 == n := rfl
 rw [this]
 cases d.find? (fun p => p.1 == n) <;> rfl
theorem dir_size (K : Nat → Addr) (d : Dir) : Maps.size (dirD K d) = d.length := by
 unfold dirD
 rw [size_eq, List.length_map]
theorem dir_keys (K : Nat → Addr) (d : Dir) : strKeys (dirD K d) = d.map (·.1) := by
 unfold dirD strKeys
 simp only [List.map_map]
 rfl
theorem dir_congr {K K' : Nat → Addr} {d : Dir} (h : ∀ p ∈ d, K p.2 = K' p.2) : dirD K d = dirD K' d := by
 unfold dirD
 congr 1
 refine List.map_congr_left (fun p hp => ?_)
 unfold ent ptrK
 rw [h p hp]
theorem before_le : ∀ {a b : L}, bytesBefore a b = true → a ≤ b
 | [], _, _ => List.nil_le _
 | _ :: _, [], h => by simp [bytesBefore] at h
 | x :: a, y :: b, h => by
  unfold bytesBefore at h
  rw [Bool.or_eq_true, Bool.and_eq_true] at h
  rcases h with h | ⟨h1, h2⟩
  ·have : x < y := by simpa using h
   exact List.cons_le_cons_iff.2 (.inl this)
  ·have e : x = y := by simpa using h1
   subst e
   exact List.cons_le_cons_iff.2 (.inr ⟨rfl, before_le h2⟩)
theorem le_anti {a b : L} (h1 : a ≤ b) (h2 : b ≤ a) : a = b := List.le_antisymm h1 h2
theorem sorted_unique : ∀ {a b : List L}, a.Perm b → a.Pairwise (fun x y => x ≤ y) → b.Pairwise (fun x y => x ≤ y) → a = b := by
 intro a
 induction a with
 | nil => intro b h _ _; exact (List.nil_perm.1 h).symm
 | cons x a ih =>
  intro b h ha hb
  cases b with
  | nil => exact absurd h.length_eq (by simp)
  | cons y b =>
   have h1 := List.pairwise_cons.1 ha
   have h2 := List.pairwise_cons.1 hb
   have e : x = y := by
    rcases List.mem_cons.1 (h.mem_iff.1 List.mem_cons_self) with e | hx
    ·exact e
    ·rcases List.mem_cons.1 (h.mem_iff.2 List.mem_cons_self) with e | hy
     ·exact e.symm
     ·exact le_anti (h1.1 _ hy) (h2.1 _ hx)
   subst e
   rw [ih (List.Perm.cons_inv h) h1.2 h2.2]
theorem keys_sorted {d : Dir} (h : Sorted d) {ss : List L} (hp : ss.Perm (d.map (·.1))) : ss.mergeSort (fun x y => decide (x ≤ y)) = d.map (·.1) := by
 refine sorted_unique ((List.mergeSort_perm ss _).trans hp) ?_ ?_
 ·have := List.pairwise_mergeSort (le := fun x y : L => decide (x ≤ y)) (fun a b c h1 h2 => by
   have h1 := of_decide_eq_true h1
   have h2 := of_decide_eq_true h2
   exact decide_eq_true (List.le_trans h1 h2)) (fun a b => by
   rcases List.le_total a b with h | h
   ·simp [h]
   ·simp [h]) ss
  exact this.imp (fun h => of_decide_eq_true h)
 ·rw [List.pairwise_map]
  exact h.imp (fun hb => before_le hb)
end Go.Proofs.YtfpbpakgajddnaaGreatDoor.Pl
/- PlA -/
namespace Go.Proofs.YtfpbpakgajddnaaGreatDoor.Pl
open Go Go.RowKit Go.Maps
set_option linter.unusedVariables false
set_option linter.unusedSimpArgs false
/-- What a panic with an error of number n bears. -/
def errV (n : Int) : Value := .iface 29 (.int .i64 n)
def chain (n : Int) : List PanicEntry := [{ v := errV n, recovered := false }]
theorem caught_panicking (p : Addr) (x n : Int) (w : World) (hc : w.cell? p = some (.int .i64 x)) (hz : w.frozen? p = false) :
  CallsD Tryz.prog 33 #[.pointer (some p)] (.panicking ({ v := errV n, recovered := false } :: [])) w fun e u' w' =>
   e = .returned (.tuple #[]) ∧ u' = .panicking ({ v := errV n, recovered := true } :: []) ∧ w' = w.setCell p (.int .i64 n) := by
 have hta : ∀ w : World, (Instr.typeAssert (.iface 29 (.int .i64 n)) 20 29 false).run Tryz.prog w = .ok (.int .i64 n) w := fun w => by kernel_rfl
 refine callsD_of_wpS Tryz.func33 rfl fun c₀ cs hu => ?_
 apply wpS_seq
 apply wpS_region
 simp [wpOpsS, go_sem, recoverD, hu, Tryz.ntmps33, Exit.thenS]
 apply wpS_seq
 apply wpS_region
 simp [wpOpsS, go_sem, Exit.thenS, errV]
 refine wpS_cond (t := true) (by simp [Act.eval, Array.replicate]) ?_
 simp only [if_true]
 apply wpS_region
 simp [wpOpsS, go_sem, hta, hc, hz, bodyPostS, results, Tryz.results33]
theorem caught_idle (p : Addr) (w : World) :
  CallsD Tryz.prog 33 #[.pointer (some p)] .returning w fun e u' w' => e = .returned (.tuple #[]) ∧ u' = .returning ∧ w' = w := by
 refine callsD_of_wpS Tryz.func33 rfl fun c₀ cs hu => ?_
 apply wpS_seq
 apply wpS_region
 simp [wpOpsS, go_sem, recoverD, hu, Tryz.ntmps33, Exit.thenS]
 apply wpS_seq
 apply wpS_region
 simp [wpOpsS, go_sem, Exit.thenS]
 refine wpS_cond (t := false) (by simp [Act.eval, Array.replicate]) ?_
 simp only [Bool.false_eq_true, if_false]
 refine wpS_of_wp (wp_skip ?_)
 cases c₀
 simp_all [bodyPostS, results, Tryz.results33]
theorem check_ok (n : Int) (w : World) : Calls Tryz.prog 34 #[.bool true, .int .i64 n] w fun e w' => e = .returned (.tuple #[]) ∧ w' = w := by
 go_enter Tryz.func34, Tryz.ntmps34
 go_wp2
 go_end0
 exact ⟨rfl, rfl⟩
theorem check_no (n : Int) (w : World) : Calls Tryz.prog 34 #[.bool false, .int .i64 n] w fun e w' => e = .panicked (chain n) ∧ w' = w := by
 go_enter Tryz.func34, Tryz.ntmps34
 go_wp2
 exact ⟨rfl, rfl, rfl⟩
/-- A plate's own block. -/
def topC (sf nw st : Value) (pw rm : Int) : Obj := .cells #[sf, nw, st, .int .i64 pw, .int .i64 rm] 80 (0, 0)
theorem spend_no (bp : Nat) (sf nw st : Value) (rm : Int) (w : World) (top : w.heap[bp]? = some (topC sf nw st 0 rm)) :
  Calls Tryz.prog 36 #[.pointer (some ⟨bp, 0, none⟩)] w fun e w' => e = .panicked (chain 13) ∧ w' = w := by
 have c3 : w.cell? ⟨bp, 3, none⟩ = some (.int .i64 0) := cell_at top 3
 go_enter Tryz.func36, Tryz.ntmps36
 go_wp2_with (first
  | (go_at_call 34; refine (check_no 13 _).mono ?_; rintro e w' ⟨rfl, rfl⟩)
  | go_in)
 exact ⟨rfl, rfl, rfl⟩
theorem spend_ok (bp : Nat) (sf nw st : Value) (pw rm : Int) (w : World) (top : w.heap[bp]? = some (topC sf nw st pw rm)) (h0 : pw ≠ 0) (h1 : -1 ≤ pw) (h2 : pw ≤ 9223372036854775807) :
  Calls Tryz.prog 36 #[.pointer (some ⟨bp, 0, none⟩)] w fun e w' => e = .returned (.tuple #[]) ∧ w' = w.setCell ⟨bp, 3, none⟩ (.int .i64 (spend pw)) := by
 have c3 : w.cell? ⟨bp, 3, none⟩ = some (.int .i64 pw) := cell_at top 3
 have f3 : w.frozen? ⟨bp, 3, none⟩ = false := melt_at top 3
 have hb : (pw != 0) = true := by simpa using h0
 go_enter Tryz.func36, Tryz.ntmps36
 go_wp2_with (first
  | (go_at_call 34; refine (check_ok 13 _).mono ?_; rintro e w' ⟨rfl, rfl⟩)
  | go_in)
 all_goals (go_end0; refine ⟨rfl, ?_⟩; congr 2 <;> (unfold spend; omega))
theorem keyS : Keyed Tryz.prog 9 := string_keyed Tryz.underlying9
theorem zeroF (w : World) : (zeroValue 76).run Tryz.prog w = .ok (.pointer none) w := by kernel_rfl
abbrev OwnDir (w : World) (b : Nat) (K : Nat → Addr) (d : Dir) : Prop := w.ownsMap Tryz.prog 9 rawE b d.length (dirD K d)
theorem own_dir {w : World} {b n : Nat} {K : Nat → Addr} {d : Dir} (h : w.ownsMap Tryz.prog 9 rawE b n (dirD K d)) : OwnDir w b K d := by
 have h1 := map_count (es := d.map (ent K)) h
 rw [List.length_map] at h1
 exact h1
theorem dir_lookup {w : World} {b : Nat} {K : Nat → Addr} {d : Dir} (h : OwnDir w b K d) (s : ByteArray) (hs : s.size ≤ maxLen) :
  (Instr.lookup 77 (.map (some b)) (.string s) false).run Tryz.prog w = .ok (match look d s.data.toList with | some k => .pointer (some (K k)) | none => .pointer none) w := by
 obtain ⟨v, ps, hrun, hR⟩ := h.lookup keyS Tryz.underlying77 (zeroF w) (R := rawE) (zd := .held (.pointer none)) (zp := []) rfl (WideMaps.keyOf_string_mk Tryz.underlying9 hs)
 obtain ⟨q, rfl, hy⟩ := rawE_inv hR
 rw [hrun]
 have h1 := congrArg Prod.fst hy
 rw [dir_at] at h1
 cases hl : look d s.data.toList with
 | none =>
  rw [hl] at h1
  simp at h1
  rw [← h1]
 | some k =>
  rw [hl] at h1
  simp [ptrK] at h1
  rw [← h1]
theorem file_ok (bp bn : Nat) (sf st : Value) (pw rm : Int) (K : Nat → Addr) (d : Dir) (s : ByteArray) (k : Nat) (w : World) (top : w.heap[bp]? = some (topC sf (.map (some bn)) st pw rm)) (hd : OwnDir w bn K d) (hs : s.size ≤ maxLen) (hl : look d s.data.toList = some k) :
  Calls Tryz.prog 38 #[.pointer (some ⟨bp, 0, none⟩), .string s] w fun e w' => e = .returned (.pointer (some (K k))) ∧ w' = w := by
 have c1 : w.cell? ⟨bp, 1, none⟩ = some (.map (some bn)) := cell_at top 1
 have hrun := dir_lookup hd s hs
 rw [hl] at hrun
 simp only at hrun
 go_enter Tryz.func38, Tryz.ntmps38
 go_wp2_with (first
  | (go_at_call 34; refine (check_ok 10 _).mono ?_; rintro e w' ⟨rfl, rfl⟩)
  | go_in)
 go_ret
 exact ⟨rfl, rfl⟩
theorem file_no (bp bn : Nat) (sf st : Value) (pw rm : Int) (K : Nat → Addr) (d : Dir) (s : ByteArray) (w : World) (top : w.heap[bp]? = some (topC sf (.map (some bn)) st pw rm)) (hd : OwnDir w bn K d) (hs : s.size ≤ maxLen) (hl : look d s.data.toList = none) :
  Calls Tryz.prog 38 #[.pointer (some ⟨bp, 0, none⟩), .string s] w fun e w' => e = .panicked (chain 10) ∧ w' = w := by
 have c1 : w.cell? ⟨bp, 1, none⟩ = some (.map (some bn)) := cell_at top 1
 have hrun := dir_lookup hd s hs
 rw [hl] at hrun
 simp only at hrun
 go_enter Tryz.func38, Tryz.ntmps38
 go_wp2_with (first
  | (go_at_call 34; refine (check_no 10 _).mono ?_; rintro e w' ⟨rfl, rfl⟩)
  | go_in)
 exact ⟨rfl, rfl, rfl⟩
/-- A step done: a name gets a file. -/
theorem do_put (b : Nat) (K : Nat → Addr) (d : Dir) (s : ByteArray) (k : Nat) (w : World) (hd : OwnDir w b K d) (hs : s.size ≤ maxLen) (hn : d.length < maxLen) :
  Calls Tryz.prog 68 #[.map (some b), .agg #[.string s, .pointer (some (K k))]] w fun e w' => e = .returned (.tuple #[]) ∧ OwnDir w' b K (put d (s.data.toList, some k)) ∧ Tch (fun i => i = b) w w' := by
 have hkey := WideMaps.keyOf_string_mk (P := Tryz.prog) (k := 9) Tryz.underlying9 hs
 go_enter Tryz.func68, Tryz.ntmps68
 go_wp2_with (first
  | (at_mapUpdate; refine wpList_mapUpdate_own _ rfl _ _ _ 77 rfl 9 76 keyS Tryz.underlying77 rawE b d.length (dirD K d) rfl (hd.alloc _) hn _ _ _ rfl rfl hkey _ _ rfl ?_; intro w1 hown1 hg1)
  | go_in)
 go_end0
 refine ⟨rfl, ?_, (Tch.alloc _ w _).andGrown hg1 (fun k e => .inl (Option.some.inj e).symm)⟩
 exact own_dir (show w1.ownsMap Tryz.prog 9 rawE b (d.length + 1) (dirD K (ins (s.data.toList, k) (rid s.data.toList d))) by rw [← dir_put]; exact hown1)
theorem do_del (b : Nat) (K : Nat → Addr) (d : Dir) (s : ByteArray) (w : World) (hd : OwnDir w b K d) (hs : s.size ≤ maxLen) :
  Calls Tryz.prog 68 #[.map (some b), .agg #[.string s, .pointer none]] w fun e w' => e = .returned (.tuple #[]) ∧ OwnDir w' b K (put d (s.data.toList, none)) ∧ Tch (fun i => i = b) w w' := by
 have hkey := WideMaps.keyOf_string_mk (P := Tryz.prog) (k := 9) Tryz.underlying9 hs
 go_enter Tryz.func68, Tryz.ntmps68
 go_wp2_with (first
  | (at_delete; refine wpList_delete_own _ rfl _ _ 77 9 rfl 76 keyS Tryz.underlying77 rawE b d.length (dirD K d) rfl (hd.alloc _) _ _ rfl hkey ?_; intro w1 hown1 hturn1)
  | go_in)
 go_end0
 refine ⟨rfl, ?_, (Tch.alloc _ w _).andGrown hturn1.grown (fun k e => .inl (Option.some.inj e).symm)⟩
 exact own_dir (show w1.ownsMap Tryz.prog 9 rawE b d.length (dirD K (rid s.data.toList d)) by rw [← dir_del]; exact hown1)
end Go.Proofs.YtfpbpakgajddnaaGreatDoor.Pl
/- Shelf -/
namespace Go.Proofs
open Go.Shelf
def Tryz.lays169_ren : Go.Shelf.Ren := ⟨fun | 169 => 112 | n => n, fun | 70 => 150 | 9 => 9 | 0 => 0 | 72 => 152 | 37 => 63 | 127 => 174 | 3 => 3 | 5 => 5 | n => n, fun | n => n⟩
theorem Tryz.lays169 : Go.Proofs.Lays.n169 Tryz.prog Tryz.lays169_ren := {
  mixed := by kernel_rfl
  f169 := Tryz.func112.trans (congrArg some (by kernel_rfl))
  t0 := Tryz.underlying0
  a0 := Tryz.isAgg0
  z0 := Tryz.sizeOf0
  v0 := Tryz.zeroValue0
  t3 := Tryz.underlying3
  a3 := Tryz.isAgg3
  z3 := Tryz.sizeOf3
  v3 := Tryz.zeroValue3
  t9 := Tryz.underlying9
  a9 := Tryz.isAgg9
  z9 := Tryz.sizeOf9
  v9 := Tryz.zeroValue9
  t37 := Tryz.underlying63
  a37 := Tryz.isAgg63
  z37 := Tryz.sizeOf63
  v37 := Tryz.zeroValue63
  t70 := Tryz.underlying150
  a70 := Tryz.isAgg150
  z70 := Tryz.sizeOf150
  v70 := Tryz.zeroValue150
  t72 := Tryz.underlying152
  a72 := Tryz.isAgg152
  z72 := Tryz.sizeOf152
  v72 := Tryz.zeroValue152
  t127 := Tryz.underlying174
  a127 := Tryz.isAgg174
  z127 := Tryz.sizeOf174
  v127 := Tryz.zeroValue174 }
theorem Tryz.Builder_Extra_169 : Builder.Extra Tryz.prog Tryz.lays169_ren := {
  sizeBuilder := by kernel_rfl
  liesBuilder := by kernel_rfl
  t5 := Tryz.underlying5
  a5 := Tryz.isAgg5
  z5 := Tryz.sizeOf5
  v5 := Tryz.zeroValue5
  infoByte := by kernel_rfl
  cellsByte := by kernel_rfl
  sizeByte := by kernel_rfl
  neB5 := by decide }
def Tryz.lays156_ren : Go.Shelf.Ren := ⟨fun | 156 => 140 | 165 => 158 | 166 => 109 | 169 => 112 | 240 => 139 | 241 => 182 | 276 => 157 | 277 => 200 | n => n, fun | 31 => 41 | 9 => 9 | 3 => 3 | 4 => 4 | 0 => 0 | 20 => 20 | 72 => 152 | 76 => 137 | 70 => 150 | 37 => 63 | 75 => 136 | 127 => 174 | 164 => 189 | 5 => 5 | 80 => 154 | n => n, fun | n => n⟩
theorem Tryz.lays156 : Go.Proofs.Lays.n156 Tryz.prog Tryz.lays156_ren := {
  mixed := by kernel_rfl
  f156 := Tryz.func140.trans (congrArg some (by kernel_rfl))
  f165 := Tryz.func158.trans (congrArg some (by kernel_rfl))
  f166 := Tryz.func109.trans (congrArg some (by kernel_rfl))
  f169 := Tryz.func112.trans (congrArg some (by kernel_rfl))
  f240 := Tryz.func139.trans (congrArg some (by kernel_rfl))
  f241 := Tryz.func182.trans (congrArg some (by kernel_rfl))
  f276 := Tryz.func157.trans (congrArg some (by kernel_rfl))
  f277 := Tryz.func200.trans (congrArg some (by kernel_rfl))
  t0 := Tryz.underlying0
  a0 := Tryz.isAgg0
  z0 := Tryz.sizeOf0
  v0 := Tryz.zeroValue0
  t3 := Tryz.underlying3
  a3 := Tryz.isAgg3
  z3 := Tryz.sizeOf3
  v3 := Tryz.zeroValue3
  t4 := Tryz.underlying4
  a4 := Tryz.isAgg4
  z4 := Tryz.sizeOf4
  v4 := Tryz.zeroValue4
  t9 := Tryz.underlying9
  a9 := Tryz.isAgg9
  z9 := Tryz.sizeOf9
  v9 := Tryz.zeroValue9
  t20 := Tryz.underlying20
  a20 := Tryz.isAgg20
  z20 := Tryz.sizeOf20
  v20 := Tryz.zeroValue20
  t31 := Tryz.underlying41
  a31 := Tryz.isAgg41
  z31 := Tryz.sizeOf41
  v31 := Tryz.zeroValue41
  t37 := Tryz.underlying63
  a37 := Tryz.isAgg63
  z37 := Tryz.sizeOf63
  v37 := Tryz.zeroValue63
  t70 := Tryz.underlying150
  a70 := Tryz.isAgg150
  z70 := Tryz.sizeOf150
  v70 := Tryz.zeroValue150
  t72 := Tryz.underlying152
  a72 := Tryz.isAgg152
  z72 := Tryz.sizeOf152
  v72 := Tryz.zeroValue152
  t75 := Tryz.underlying136
  a75 := Tryz.isAgg136
  z75 := Tryz.sizeOf136
  v75 := Tryz.zeroValue136
  t76 := Tryz.underlying137
  a76 := Tryz.isAgg137
  z76 := Tryz.sizeOf137
  v76 := Tryz.zeroValue137
  t127 := Tryz.underlying174
  a127 := Tryz.isAgg174
  z127 := Tryz.sizeOf174
  v127 := Tryz.zeroValue174
  t164 := Tryz.underlying189
  a164 := Tryz.isAgg189
  z164 := Tryz.sizeOf189
  v164 := Tryz.zeroValue189 }
theorem Tryz.Builder_Extra_156 : Builder.Extra Tryz.prog Tryz.lays156_ren := {
  sizeBuilder := by kernel_rfl
  liesBuilder := by kernel_rfl
  t5 := Tryz.underlying5
  a5 := Tryz.isAgg5
  z5 := Tryz.sizeOf5
  v5 := Tryz.zeroValue5
  infoByte := by kernel_rfl
  cellsByte := by kernel_rfl
  sizeByte := by kernel_rfl
  neB5 := by decide }
open Go.RowKit in
theorem Tryz.strings_Join_none (a : Option Addr) (c : Nat) (sep : ByteArray) (w : World) :
    Calls Tryz.prog 140 #[.slice a 0 c, .string sep] w fun e w' => e = .returned (.string ⟨#[]⟩) ∧ w' = w := Any.strings_Join_none Tryz.lays156 Tryz.Builder_Extra_156 a c sep w
open Go.RowKit in
theorem Tryz.strings_Join (bk o c : Nat) (xs : List ByteArray) (sep : ByteArray) (w : World) (hcells : ∀ (j : Nat) x, xs[j]? = some x → w.cell? ⟨bk, o + j, none⟩ = some (.string x)) (hbk : bk < w.heap.size) (hN : xs.length ≤ 140737488355328) (hcap : xs.length ≤ c) (hlen : (Lib.join (xs.map (·.data.toList)) sep.data.toList).length ≤ 140737488355328) :
    Calls Tryz.prog 140 #[.slice (some ⟨bk, o, none⟩) xs.length c, .string sep] w fun e w' => e = .returned (.string ⟨(Lib.join (xs.map (·.data.toList)) sep.data.toList).toArray⟩) ∧ Below w.heap.size w w' := Any.strings_Join Tryz.lays156 Tryz.Builder_Extra_156 bk o c xs sep w hcells hbk hN hcap hlen
open Go.RowKit in
theorem Tryz.Builder_String_any_k (B b : Nat) (l : List UInt8) (w : World) (h : Lib.IsBuilderF 152 5 B b (Lib.byteCells l) w) (hBw : B ≤ w.heap.size) :
    Calls Tryz.prog 112 #[.pointer (some ⟨b, 0, none⟩)] w fun e w' => e = .returned (.string ⟨l.toArray⟩) ∧ (Lib.IsBuilderF 152 5 B b (Lib.byteCells l) w' ∧ Below B w w' ∧ Lib.OthersKept 5 (some b) w w') := Any.Builder_String_any_k Tryz.lays169 Tryz.Builder_Extra_169 B b l w h hBw
def Tryz.laysM171_ren : Go.Shelf.Ren := ⟨fun | 171 => 107 | 243 => 138 | 246 => 156 | 283 => 178 | 284 => 179 | 285 => 180 | 286 => 181 | 129 => 169 | 317 => 196 | 318 => 197 | 319 => 198 | 320 => 199 | 337 => 204 | 338 => 205 | n => n, fun | 3 => 3 | 9 => 9 | 2 => 2 | 4 => 4 | 171 => 211 | 0 => 0 | 53 => 200 | 37 => 63 | 5 => 5 | 173 => 213 | 212 => 227 | 51 => 166 | 20 => 20 | 213 => 228 | 46 => 167 | 232 => 240 | 233 => 241 | n => n, fun | 17 => 3 | 18 => 6 | 19 => 7 | n => n⟩
theorem Tryz.laysM171 : Go.Proofs.LaysM.n171 Tryz.prog Tryz.laysM171_ren := {
  mixed := by kernel_rfl
  f129 := Tryz.func169.trans (congrArg some (by kernel_rfl))
  f171 := Tryz.func107.trans (congrArg some (by kernel_rfl))
  f243 := Tryz.func138.trans (congrArg some (by kernel_rfl))
  f246 := Tryz.func156.trans (congrArg some (by kernel_rfl))
  f283 := Tryz.func178.trans (congrArg some (by kernel_rfl))
  f284 := Tryz.func179.trans (congrArg some (by kernel_rfl))
  f285 := Tryz.func180.trans (congrArg some (by kernel_rfl))
  f286 := Tryz.func181.trans (congrArg some (by kernel_rfl))
  f317 := Tryz.func196.trans (congrArg some (by kernel_rfl))
  f318 := Tryz.func197.trans (congrArg some (by kernel_rfl))
  f319 := Tryz.func198.trans (congrArg some (by kernel_rfl))
  f320 := Tryz.func199.trans (congrArg some (by kernel_rfl))
  f337 := Tryz.func204.trans (congrArg some (by kernel_rfl))
  f338 := Tryz.func205.trans (congrArg some (by kernel_rfl))
  t0 := Tryz.underlying0
  a0 := Tryz.isAgg0
  z0 := Tryz.sizeOf0
  v0 := Tryz.zeroValue0
  t2 := Tryz.underlying2
  a2 := Tryz.isAgg2
  z2 := Tryz.sizeOf2
  v2 := Tryz.zeroValue2
  t3 := Tryz.underlying3
  a3 := Tryz.isAgg3
  z3 := Tryz.sizeOf3
  v3 := Tryz.zeroValue3
  t4 := Tryz.underlying4
  a4 := Tryz.isAgg4
  z4 := Tryz.sizeOf4
  v4 := Tryz.zeroValue4
  t5 := Tryz.underlying5
  a5 := Tryz.isAgg5
  z5 := Tryz.sizeOf5
  v5 := Tryz.zeroValue5
  t9 := Tryz.underlying9
  a9 := Tryz.isAgg9
  z9 := Tryz.sizeOf9
  v9 := Tryz.zeroValue9
  t20 := Tryz.underlying20
  a20 := Tryz.isAgg20
  z20 := Tryz.sizeOf20
  v20 := Tryz.zeroValue20
  t37 := Tryz.underlying63
  a37 := Tryz.isAgg63
  z37 := Tryz.sizeOf63
  v37 := Tryz.zeroValue63
  t46 := Tryz.underlying167
  a46 := Tryz.isAgg167
  z46 := Tryz.sizeOf167
  v46 := Tryz.zeroValue167
  t51 := Tryz.underlying166
  a51 := Tryz.isAgg166
  z51 := Tryz.sizeOf166
  v51 := Tryz.zeroValue166
  t53 := Tryz.underlying200
  a53 := Tryz.isAgg200
  z53 := Tryz.sizeOf200
  v53 := Tryz.zeroValue200
  t171 := Tryz.underlying211
  a171 := Tryz.isAgg211
  z171 := Tryz.sizeOf211
  v171 := Tryz.zeroValue211
  t173 := Tryz.underlying213
  a173 := Tryz.isAgg213
  z173 := Tryz.sizeOf213
  v173 := Tryz.zeroValue213
  t212 := Tryz.underlying227
  a212 := Tryz.isAgg227
  z212 := Tryz.sizeOf227
  v212 := Tryz.zeroValue227
  t213 := Tryz.underlying228
  a213 := Tryz.isAgg228
  z213 := Tryz.sizeOf228
  t232 := Tryz.underlying240
  a232 := Tryz.isAgg240
  z232 := Tryz.sizeOf240
  v232 := Tryz.zeroValue240
  t233 := Tryz.underlying241
  a233 := Tryz.isAgg241
  z233 := Tryz.sizeOf241
  v233 := Tryz.zeroValue241
  g17 := by kernel_rfl
  g18 := by kernel_rfl
  g19 := by kernel_rfl
  i0 := by kernel_rfl
  i2 := by kernel_rfl
  i3 := by kernel_rfl
  i4 := by kernel_rfl
  i5 := by kernel_rfl
  i9 := by kernel_rfl
  i20 := by kernel_rfl
  i37 := by kernel_rfl
  i46 := by kernel_rfl
  i51 := by kernel_rfl
  i53 := by kernel_rfl
  i171 := by kernel_rfl
  i173 := by kernel_rfl
  i212 := by kernel_rfl
  i232 := by kernel_rfl
  i233 := by kernel_rfl
  m17 := by kernel_rfl
  m18 := by kernel_rfl
  m19 := by kernel_rfl }
open Go.RowKit Go.Sort Go.Lib in
theorem Tryz.strconv_Itoa (n : Int) (h0 : -9223372036854775808 ≤ n) (h1 : n ≤ 9223372036854775807) (w : World) (htab : Lib.TabIs Tryz.prog w "internal/strconv.uint64pow10" .u64 Lib.pow10Tab) :
    Calls Tryz.prog 107 #[.int .i64 n] w fun e w' => e = .returned (.string ⟨(Lib.itoa n).toArray⟩) ∧ ∃ k os, w' = grow (w.drewN k) os := Any.strconv_Itoa Tryz.laysM171 n h0 h1 w htab
def Tryz.laysC172_ren : Go.Shelf.Ren := ⟨fun | 172 => 89 | 244 => 129 | 245 => 130 | 247 => 149 | 279 => 150 | 280 => 151 | 281 => 152 | 282 => 153 | 287 => 174 | 316 => 175 | 171 => 107 | 205 => 176 | 321 => 194 | 322 => 195 | 243 => 138 | 246 => 156 | 283 => 178 | 284 => 179 | 285 => 180 | 286 => 181 | 129 => 169 | 317 => 196 | 318 => 197 | 319 => 198 | 320 => 199 | 337 => 204 | 338 => 205 | n => n, fun | 9 => 9 | 3 => 3 | 75 => 136 | 76 => 137 | 4 => 4 | 5 => 5 | 167 => 181 | 37 => 63 | 0 => 0 | 85 => 182 | 2 => 2 | 168 => 184 | 53 => 200 | 175 => 204 | 46 => 167 | 210 => 208 | 127 => 174 | 145 => 225 | 143 => 223 | 21 => 21 | 171 => 211 | 173 => 213 | 212 => 227 | 51 => 166 | 20 => 20 | 213 => 228 | 232 => 240 | 233 => 241 | 80 => 154 | n => n, fun | 15 => 0 | 16 => 1 | 17 => 3 | 18 => 6 | 19 => 7 | n => n⟩
theorem Tryz.laysC172 : Go.Proofs.LaysC.n172 Tryz.prog Tryz.laysC172_ren := {
  mixed := by kernel_rfl
  f129 := Tryz.func169.trans (congrArg some (by kernel_rfl))
  f171 := Tryz.func107.trans (congrArg some (by kernel_rfl))
  f172 := Tryz.func89.trans (congrArg some (by kernel_rfl))
  f205 := Tryz.func176.trans (congrArg some (by kernel_rfl))
  f243 := Tryz.func138.trans (congrArg some (by kernel_rfl))
  f244 := Tryz.func129.trans (congrArg some (by kernel_rfl))
  f245 := Tryz.func130.trans (congrArg some (by kernel_rfl))
  f246 := Tryz.func156.trans (congrArg some (by kernel_rfl))
  f247 := Tryz.func149.trans (congrArg some (by kernel_rfl))
  f279 := Tryz.func150.trans (congrArg some (by kernel_rfl))
  f280 := Tryz.func151.trans (congrArg some (by kernel_rfl))
  f281 := Tryz.func152.trans (congrArg some (by kernel_rfl))
  f282 := Tryz.func153.trans (congrArg some (by kernel_rfl))
  f283 := Tryz.func178.trans (congrArg some (by kernel_rfl))
  f284 := Tryz.func179.trans (congrArg some (by kernel_rfl))
  f285 := Tryz.func180.trans (congrArg some (by kernel_rfl))
  f286 := Tryz.func181.trans (congrArg some (by kernel_rfl))
  f287 := Tryz.func174.trans (congrArg some (by kernel_rfl))
  f316 := Tryz.func175.trans (congrArg some (by kernel_rfl))
  f317 := Tryz.func196.trans (congrArg some (by kernel_rfl))
  f318 := Tryz.func197.trans (congrArg some (by kernel_rfl))
  f319 := Tryz.func198.trans (congrArg some (by kernel_rfl))
  f320 := Tryz.func199.trans (congrArg some (by kernel_rfl))
  f321 := Tryz.func194.trans (congrArg some (by kernel_rfl))
  f322 := Tryz.func195.trans (congrArg some (by kernel_rfl))
  f337 := Tryz.func204.trans (congrArg some (by kernel_rfl))
  f338 := Tryz.func205.trans (congrArg some (by kernel_rfl))
  t0 := Tryz.underlying0
  a0 := Tryz.isAgg0
  z0 := Tryz.sizeOf0
  v0 := Tryz.zeroValue0
  t2 := Tryz.underlying2
  a2 := Tryz.isAgg2
  z2 := Tryz.sizeOf2
  v2 := Tryz.zeroValue2
  t3 := Tryz.underlying3
  a3 := Tryz.isAgg3
  z3 := Tryz.sizeOf3
  v3 := Tryz.zeroValue3
  t4 := Tryz.underlying4
  a4 := Tryz.isAgg4
  z4 := Tryz.sizeOf4
  v4 := Tryz.zeroValue4
  t5 := Tryz.underlying5
  a5 := Tryz.isAgg5
  z5 := Tryz.sizeOf5
  v5 := Tryz.zeroValue5
  t9 := Tryz.underlying9
  a9 := Tryz.isAgg9
  z9 := Tryz.sizeOf9
  v9 := Tryz.zeroValue9
  t20 := Tryz.underlying20
  a20 := Tryz.isAgg20
  z20 := Tryz.sizeOf20
  v20 := Tryz.zeroValue20
  t21 := Tryz.underlying21
  a21 := Tryz.isAgg21
  z21 := Tryz.sizeOf21
  v21 := Tryz.zeroValue21
  t37 := Tryz.underlying63
  a37 := Tryz.isAgg63
  z37 := Tryz.sizeOf63
  v37 := Tryz.zeroValue63
  t46 := Tryz.underlying167
  a46 := Tryz.isAgg167
  z46 := Tryz.sizeOf167
  v46 := Tryz.zeroValue167
  t51 := Tryz.underlying166
  a51 := Tryz.isAgg166
  z51 := Tryz.sizeOf166
  v51 := Tryz.zeroValue166
  t53 := Tryz.underlying200
  a53 := Tryz.isAgg200
  z53 := Tryz.sizeOf200
  v53 := Tryz.zeroValue200
  t75 := Tryz.underlying136
  a75 := Tryz.isAgg136
  z75 := Tryz.sizeOf136
  v75 := Tryz.zeroValue136
  t76 := Tryz.underlying137
  a76 := Tryz.isAgg137
  z76 := Tryz.sizeOf137
  v76 := Tryz.zeroValue137
  t85 := Tryz.underlying182
  a85 := Tryz.isAgg182
  z85 := Tryz.sizeOf182
  v85 := Tryz.zeroValue182
  t127 := Tryz.underlying174
  a127 := Tryz.isAgg174
  z127 := Tryz.sizeOf174
  v127 := Tryz.zeroValue174
  t143 := Tryz.underlying223
  a143 := Tryz.isAgg223
  z143 := Tryz.sizeOf223
  v143 := Tryz.zeroValue223
  t145 := Tryz.underlying225
  a145 := Tryz.isAgg225
  z145 := Tryz.sizeOf225
  v145 := Tryz.zeroValue225
  t167 := Tryz.underlying181
  a167 := Tryz.isAgg181
  z167 := Tryz.sizeOf181
  v167 := Tryz.zeroValue181
  t168 := Tryz.underlying184
  a168 := Tryz.isAgg184
  z168 := Tryz.sizeOf184
  v168 := Tryz.zeroValue184
  t171 := Tryz.underlying211
  a171 := Tryz.isAgg211
  z171 := Tryz.sizeOf211
  v171 := Tryz.zeroValue211
  t173 := Tryz.underlying213
  a173 := Tryz.isAgg213
  z173 := Tryz.sizeOf213
  v173 := Tryz.zeroValue213
  t175 := Tryz.underlying204
  a175 := Tryz.isAgg204
  z175 := Tryz.sizeOf204
  v175 := Tryz.zeroValue204
  t210 := Tryz.underlying208
  a210 := Tryz.isAgg208
  z210 := Tryz.sizeOf208
  v210 := Tryz.zeroValue208
  t212 := Tryz.underlying227
  a212 := Tryz.isAgg227
  z212 := Tryz.sizeOf227
  v212 := Tryz.zeroValue227
  t213 := Tryz.underlying228
  a213 := Tryz.isAgg228
  z213 := Tryz.sizeOf228
  t232 := Tryz.underlying240
  a232 := Tryz.isAgg240
  z232 := Tryz.sizeOf240
  v232 := Tryz.zeroValue240
  t233 := Tryz.underlying241
  a233 := Tryz.isAgg241
  z233 := Tryz.sizeOf241
  v233 := Tryz.zeroValue241
  g15 := by kernel_rfl
  g16 := by kernel_rfl
  g17 := by kernel_rfl
  g18 := by kernel_rfl
  g19 := by kernel_rfl
  t80 := Tryz.underlying154
  a80 := Tryz.isAgg154
  z80 := Tryz.sizeOf154
  v80 := Tryz.zeroValue154
  i0 := by kernel_rfl
  i2 := by kernel_rfl
  i3 := by kernel_rfl
  i4 := by kernel_rfl
  i5 := by kernel_rfl
  i9 := by kernel_rfl
  i20 := by kernel_rfl
  i21 := by kernel_rfl
  i37 := by kernel_rfl
  i46 := by kernel_rfl
  i51 := by kernel_rfl
  i53 := by kernel_rfl
  i75 := by kernel_rfl
  i76 := by kernel_rfl
  i80 := by kernel_rfl
  i85 := by kernel_rfl
  i127 := by kernel_rfl
  i143 := by kernel_rfl
  i145 := by kernel_rfl
  i167 := by kernel_rfl
  i168 := by kernel_rfl
  i171 := by kernel_rfl
  i173 := by kernel_rfl
  i175 := by kernel_rfl
  i210 := by kernel_rfl
  i212 := by kernel_rfl
  i232 := by kernel_rfl
  i233 := by kernel_rfl
  m15 := by kernel_rfl
  m16 := by kernel_rfl
  m17 := by kernel_rfl
  m18 := by kernel_rfl
  m19 := by kernel_rfl
  c0 := by kernel_rfl
  c2 := by kernel_rfl
  c3 := by kernel_rfl
  c4 := by kernel_rfl
  c5 := by kernel_rfl
  c9 := by kernel_rfl
  c20 := by kernel_rfl
  c21 := by kernel_rfl
  c37 := by kernel_rfl
  c46 := by kernel_rfl
  c51 := by kernel_rfl
  c53 := by kernel_rfl
  c75 := by kernel_rfl
  c76 := by kernel_rfl
  c80 := by kernel_rfl
  c85 := by kernel_rfl
  c127 := by kernel_rfl
  c143 := by kernel_rfl
  c145 := by kernel_rfl
  c167 := by kernel_rfl
  c168 := by kernel_rfl
  c171 := by kernel_rfl
  c173 := by kernel_rfl
  c175 := by kernel_rfl
  c210 := by kernel_rfl
  c212 := by kernel_rfl
  c213 := by kernel_rfl
  c232 := by kernel_rfl
  c233 := by kernel_rfl }
open Go.RowKit in
theorem Tryz.strconv_Atoi_ok (s : ByteArray) (hmax : s.size ≤ 9223372036854775806) (v : Int) (h : Lib.atoiAll s.data.toList = .ok v) (w : World) :
    Calls Tryz.prog 89 #[.string s] w fun e w' => e = .returned (.tuple #[.int .i64 v, .nilIface]) ∧ (w' = w ∨ ∃ t, w' = Lib.bytesWorld w 5 t) := Any.strconv_Atoi_ok Tryz.laysC172 s hmax v h w
open Go.RowKit in
theorem Tryz.strconv_Atoi_syntax_var (s : ByteArray) (hlim : s.size ≤ 281474976710656) (h : Lib.atoiAll s.data.toList = Go.Lib.NumEnd.syntax) (tp : TypeId) (p : Value) (w : World) (hvar : w.var? Tryz.prog "strconv.ErrSyntax" = some #[.iface tp p]) :
    Calls Tryz.prog 89 #[.string s] w fun e w' => ∃ N, e = .returned (.tuple #[.int .i64 0, .iface 184 (.pointer (some ⟨N, 0, none⟩))]) ∧ w.heap.size ≤ N ∧ w'.heap[N]? = some (.cells #[.string ⟨#[65, 116, 111, 105]⟩, .string s, .iface tp p] 208 (0, 0)) ∧ Below w.heap.size w w' := Any.strconv_Atoi_syntax_var Tryz.laysC172 s hlim h tp p w hvar
open Go.RowKit in
theorem Tryz.strconv_Atoi_range_var (s : ByteArray) (hlim : s.size ≤ 281474976710656) (h : Lib.atoiAll s.data.toList = .range) (tp : TypeId) (p : Value) (w : World) (hvar : w.var? Tryz.prog "strconv.ErrRange" = some #[.iface tp p]) :
    Calls Tryz.prog 89 #[.string s] w fun e w' => ∃ N, e = .returned (.tuple #[.int .i64 (Lib.atoiSat s.data.toList), .iface 184 (.pointer (some ⟨N, 0, none⟩))]) ∧ w.heap.size ≤ N ∧ w'.heap[N]? = some (.cells #[.string ⟨#[65, 116, 111, 105]⟩, .string s, .iface tp p] 208 (0, 0)) ∧ Below w.heap.size w w' := Any.strconv_Atoi_range_var Tryz.laysC172 s hlim h tp p w hvar
def Tryz.laysGw17_ren : Go.Shelf.Ren := ⟨fun | 17 => 74 | 15 => 119 | 20 => 145 | n => n, fun | 9 => 9 | 23 => 125 | 4 => 4 | 3 => 3 | 0 => 0 | 21 => 21 | n => n, fun | n => n⟩
theorem Tryz.laysGw17 : Go.Proofs.LaysGw.n17 Tryz.prog Tryz.laysGw17_ren := {
  mixed := by kernel_rfl
  f15 := Tryz.func119.trans (congrArg some (by kernel_rfl))
  f17 := Tryz.func74.trans (congrArg some (by kernel_rfl))
  f20 := Tryz.func145.trans (congrArg some (by kernel_rfl))
  t0 := Tryz.underlying0
  a0 := Tryz.isAgg0
  z0 := Tryz.sizeOf0
  v0 := Tryz.zeroValue0
  i0 := by kernel_rfl
  t3 := Tryz.underlying3
  a3 := Tryz.isAgg3
  z3 := Tryz.sizeOf3
  v3 := Tryz.zeroValue3
  i3 := by kernel_rfl
  t4 := Tryz.underlying4
  a4 := Tryz.isAgg4
  z4 := Tryz.sizeOf4
  v4 := Tryz.zeroValue4
  i4 := by kernel_rfl
  t9 := Tryz.underlying9
  a9 := Tryz.isAgg9
  z9 := Tryz.sizeOf9
  v9 := Tryz.zeroValue9
  i9 := by kernel_rfl
  t21 := Tryz.underlying21
  a21 := Tryz.isAgg21
  z21 := Tryz.sizeOf21
  v21 := Tryz.zeroValue21
  i21 := by kernel_rfl
  t23 := Tryz.underlying125
  a23 := Tryz.isAgg125
  z23 := Tryz.sizeOf125
  v23 := Tryz.zeroValue125
  i23 := by kernel_rfl }
open Go.RowKit Go.Lib in
theorem Tryz.strings_ContainsFunc (g : Nat) (lb : Array Value) (eg : ∀ args w, (callFunc g args).run Tryz.prog w = .ok (.enter g args) w) (p : Nat → Bool) (s : ByteArray) (w : World) (hp : PredAt Tryz.prog g lb encR p w) :
    Calls Tryz.prog 74 #[.string s, .func (.func g) #[] lb] w fun e w' => e = .returned (.bool (decide (0 ≤ Lib.idxFunc p true s))) ∧ Below w.heap.size w w' := Any.strings_ContainsFunc Tryz.laysGw17 g lb eg p s w hp
def Tryz.lays101_ren : Go.Shelf.Ren := ⟨fun | 101 => 90 | 208 => 131 | 206 => 154 | n => n, fun | 9 => 9 | 4 => 4 | 3 => 3 | n => n, fun | n => n⟩
theorem Tryz.lays101 : Go.Proofs.Lays.n101 Tryz.prog Tryz.lays101_ren := {
  mixed := by kernel_rfl
  f101 := Tryz.func90.trans (congrArg some (by kernel_rfl))
  f206 := Tryz.func154.trans (congrArg some (by kernel_rfl))
  f208 := Tryz.func131.trans (congrArg some (by kernel_rfl))
  t3 := Tryz.underlying3
  a3 := Tryz.isAgg3
  z3 := Tryz.sizeOf3
  v3 := Tryz.zeroValue3
  t4 := Tryz.underlying4
  a4 := Tryz.isAgg4
  z4 := Tryz.sizeOf4
  v4 := Tryz.zeroValue4
  t9 := Tryz.underlying9
  a9 := Tryz.isAgg9
  z9 := Tryz.sizeOf9
  v9 := Tryz.zeroValue9 }
open Go.RowKit Go.Lib in
theorem Tryz.strings_TrimPrefix (s p : ByteArray) (w : World) :
    Calls Tryz.prog 90 #[.string s, .string p] w fun e w' => e = .returned (.string ⟨(Lib.trimPrefix s.data.toList p.data.toList).toArray⟩) ∧ w' = w := Any.strings_TrimPrefix Tryz.lays101 s p w
def Tryz.lays146_ren : Go.Shelf.Ren := ⟨fun | 146 => 88 | 221 => 128 | 268 => 146 | 138 => 147 | 143 => 148 | 195 => 170 | 197 => 171 | 218 => 172 | 219 => 173 | 260 => 189 | 217 => 190 | 225 => 191 | 224 => 192 | 267 => 193 | 266 => 202 | 314 => 203 | n => n, fun | 9 => 9 | 31 => 41 | 3 => 3 | 4 => 4 | 0 => 0 | 105 => 201 | 21 => 21 | 5 => 5 | 46 => 167 | 119 => 234 | 139 => 237 | 138 => 236 | 146 => 238 | 51 => 166 | n => n, fun | 1 => 2 | 3 => 4 | 4 => 5 | n => n⟩
theorem Tryz.lays146 : Go.Proofs.Lays.n146 Tryz.prog Tryz.lays146_ren := {
  mixed := by kernel_rfl
  f138 := Tryz.func147.trans (congrArg some (by kernel_rfl))
  f143 := Tryz.func148.trans (congrArg some (by kernel_rfl))
  f146 := Tryz.func88.trans (congrArg some (by kernel_rfl))
  f195 := Tryz.func170.trans (congrArg some (by kernel_rfl))
  f197 := Tryz.func171.trans (congrArg some (by kernel_rfl))
  f217 := Tryz.func190.trans (congrArg some (by kernel_rfl))
  f218 := Tryz.func172.trans (congrArg some (by kernel_rfl))
  f219 := Tryz.func173.trans (congrArg some (by kernel_rfl))
  f221 := Tryz.func128.trans (congrArg some (by kernel_rfl))
  f224 := Tryz.func192.trans (congrArg some (by kernel_rfl))
  f225 := Tryz.func191.trans (congrArg some (by kernel_rfl))
  f260 := Tryz.func189.trans (congrArg some (by kernel_rfl))
  f266 := Tryz.func202.trans (congrArg some (by kernel_rfl))
  f267 := Tryz.func193.trans (congrArg some (by kernel_rfl))
  f268 := Tryz.func146.trans (congrArg some (by kernel_rfl))
  f314 := Tryz.func203.trans (congrArg some (by kernel_rfl))
  t0 := Tryz.underlying0
  a0 := Tryz.isAgg0
  z0 := Tryz.sizeOf0
  v0 := Tryz.zeroValue0
  t3 := Tryz.underlying3
  a3 := Tryz.isAgg3
  z3 := Tryz.sizeOf3
  v3 := Tryz.zeroValue3
  t4 := Tryz.underlying4
  a4 := Tryz.isAgg4
  z4 := Tryz.sizeOf4
  v4 := Tryz.zeroValue4
  t5 := Tryz.underlying5
  a5 := Tryz.isAgg5
  z5 := Tryz.sizeOf5
  v5 := Tryz.zeroValue5
  t9 := Tryz.underlying9
  a9 := Tryz.isAgg9
  z9 := Tryz.sizeOf9
  v9 := Tryz.zeroValue9
  t21 := Tryz.underlying21
  a21 := Tryz.isAgg21
  z21 := Tryz.sizeOf21
  v21 := Tryz.zeroValue21
  t31 := Tryz.underlying41
  a31 := Tryz.isAgg41
  z31 := Tryz.sizeOf41
  v31 := Tryz.zeroValue41
  t46 := Tryz.underlying167
  a46 := Tryz.isAgg167
  z46 := Tryz.sizeOf167
  v46 := Tryz.zeroValue167
  t51 := Tryz.underlying166
  a51 := Tryz.isAgg166
  z51 := Tryz.sizeOf166
  v51 := Tryz.zeroValue166
  t105 := Tryz.underlying201
  a105 := Tryz.isAgg201
  z105 := Tryz.sizeOf201
  v105 := Tryz.zeroValue201
  t119 := Tryz.underlying234
  a119 := Tryz.isAgg234
  z119 := Tryz.sizeOf234
  t138 := Tryz.underlying236
  a138 := Tryz.isAgg236
  z138 := Tryz.sizeOf236
  v138 := Tryz.zeroValue236
  t139 := Tryz.underlying237
  a139 := Tryz.isAgg237
  z139 := Tryz.sizeOf237
  v139 := Tryz.zeroValue237
  t146 := Tryz.underlying238
  a146 := Tryz.isAgg238
  z146 := Tryz.sizeOf238
  v146 := Tryz.zeroValue238
  g1 := by kernel_rfl
  g3 := by kernel_rfl
  g4 := by kernel_rfl }
open Go.RowKit Go.Lib in
theorem Tryz.strings_Split (s sep : ByteArray) (m : Int) (w : World) (hs : s.size < 4294967281) (hm : w.cell? ⟨2, 0, none⟩ = some (.int .i64 m)) (h1 : 1 ≤ sep.size) :
    Calls Tryz.prog 88 #[.string s, .string sep] w fun e w' =>
      e = .returned (.slice (some ⟨w.heap.size, 0, none⟩) (Lib.countB s sep + 1) (Lib.countB s sep + 1)) ∧ w' = w.alloc (.cells ((Lib.splitB sep 0 (Lib.countB s sep) s).map Value.string).toArray 9) := Any.strings_Split Tryz.lays146 (by kernel_rfl) s sep m w hs hm h1
def Tryz.lays166_ren : Go.Shelf.Ren := ⟨fun | 166 => 109 | 240 => 139 | 276 => 157 | n => n, fun | 0 => 0 | 3 => 3 | 4 => 4 | 5 => 5 | 9 => 9 | 20 => 20 | 37 => 63 | 70 => 150 | 72 => 152 | 75 => 136 | 80 => 154 | 164 => 189 | n => n, fun | n => n⟩
theorem Tryz.lays166 : Go.Proofs.Lays.n166 Tryz.prog Tryz.lays166_ren := {
  mixed := by kernel_rfl
  f166 := Tryz.func109.trans (congrArg some (by kernel_rfl))
  f240 := Tryz.func139.trans (congrArg some (by kernel_rfl))
  f276 := Tryz.func157.trans (congrArg some (by kernel_rfl))
  t0 := Tryz.underlying0
  a0 := Tryz.isAgg0
  z0 := Tryz.sizeOf0
  v0 := Tryz.zeroValue0
  t3 := Tryz.underlying3
  a3 := Tryz.isAgg3
  z3 := Tryz.sizeOf3
  v3 := Tryz.zeroValue3
  t4 := Tryz.underlying4
  a4 := Tryz.isAgg4
  z4 := Tryz.sizeOf4
  v4 := Tryz.zeroValue4
  t9 := Tryz.underlying9
  a9 := Tryz.isAgg9
  z9 := Tryz.sizeOf9
  v9 := Tryz.zeroValue9
  t20 := Tryz.underlying20
  a20 := Tryz.isAgg20
  z20 := Tryz.sizeOf20
  v20 := Tryz.zeroValue20
  t37 := Tryz.underlying63
  a37 := Tryz.isAgg63
  z37 := Tryz.sizeOf63
  v37 := Tryz.zeroValue63
  t70 := Tryz.underlying150
  a70 := Tryz.isAgg150
  z70 := Tryz.sizeOf150
  v70 := Tryz.zeroValue150
  t72 := Tryz.underlying152
  a72 := Tryz.isAgg152
  z72 := Tryz.sizeOf152
  v72 := Tryz.zeroValue152
  t75 := Tryz.underlying136
  a75 := Tryz.isAgg136
  z75 := Tryz.sizeOf136
  v75 := Tryz.zeroValue136
  t164 := Tryz.underlying189
  a164 := Tryz.isAgg189
  z164 := Tryz.sizeOf189
  v164 := Tryz.zeroValue189 }
theorem Tryz.Builder_Extra_166 : Builder.Extra Tryz.prog Tryz.lays166_ren := {
  sizeBuilder := by kernel_rfl
  liesBuilder := by kernel_rfl
  t5 := Tryz.underlying5
  a5 := Tryz.isAgg5
  z5 := Tryz.sizeOf5
  v5 := Tryz.zeroValue5
  infoByte := by kernel_rfl
  cellsByte := by kernel_rfl
  sizeByte := by kernel_rfl
  neB5 := by decide }
open Go.RowKit in
theorem Tryz.Builder_WriteString_k (B b : Nat) (bs : List Value) (s : ByteArray) (w : World) (h : Lib.IsBuilderF 152 5 B b bs w) (hlen : bs.length + s.size ≤ 140737488355328) (hBw : B ≤ w.heap.size) :
    Calls Tryz.prog 109 #[.pointer (some ⟨b, 0, none⟩), .string s] w fun e w' => e = .returned (.tuple #[.int .i64 s.size, .nilIface]) ∧ (Lib.BuilderAtF 152 5 B b (.pointer (some ⟨b, 0, none⟩)) (bs ++ Lib.strCells s) w' ∧ Below B w w' ∧ Lib.OthersKept 5 (some b) w w') := Any.Builder_WriteString_k Tryz.lays166 Tryz.Builder_Extra_166 B b bs s w h hlen hBw
end Go.Proofs
