/- Texts of this seat, joined: lemmas and walks that its statements' proofs use. -/
import Derived.Below
import Derived.Maps.Own
import Derived.WideAt
import Derived.WideShapes
import Derived.Maps.Views
import Derived.Sort.KeysCollected
import Derived.Test.YtblmjnknagpacaaProg
import Derived.WalkKit
import Derived.Maps.OwnSet
import Derived.Defers
import Derived.Recover
import Derived.Laws.Pointers
import Derived.WalkSmall
import Derived.Shelf.Small.Bits
import Derived.Shelf.Strconv.Itoa0
import Derived.Shelf.GgClosure.StringsIndexFunc
import Derived.Ground.GgwProg
import Derived.Shelf.GgClosure.StringsIndexFuncTop
import Derived.Ground.SlgmProg
import Derived.Shelf.SortM.Plain
import Derived.Shelf.SortM.SortNone
/- PlW -/
namespace Go.Proofs.Ytblmjnknagpacaa.Pl
open Go Go.RowKit
set_option linter.unusedVariables false
set_option linter.unusedSimpArgs false
/-- Of what was there, only blocks of F have turned. -/
structure Tch (F : Nat → Prop) (w w' : World) : Prop where
  os : w'.os = w.os
  tape : w'.tape = w.tape
  output : w'.output = w.output
  size : w.heap.size ≤ w'.heap.size
  block : ∀ k, k < w.heap.size → ¬ F k → w'.heap[k]? = w.heap[k]?
theorem Tch.refl (F : Nat → Prop) (w : World) : Tch F w w := ⟨rfl, rfl, rfl, Nat.le_refl _, fun _ _ _ => rfl⟩
theorem Tch.trans {F G : Nat → Prop} {a b c : World} (h : Tch F a b) (g : Tch G b c) (hG : ∀ k, G k → F k ∨ a.heap.size ≤ k) : Tch F a c :=
  ⟨g.os.trans h.os, g.tape.trans h.tape, g.output.trans h.output, Nat.le_trans h.size g.size, fun k hk hF => (g.block k (Nat.lt_of_lt_of_le hk h.size) (fun hg => (hG k hg).elim hF (by omega))).trans (h.block k hk hF)⟩
theorem Tch.mono {F G : Nat → Prop} {a b : World} (h : Tch F a b) (hG : ∀ k, F k → k < a.heap.size → G k) : Tch G a b :=
  ⟨h.os, h.tape, h.output, h.size, fun k hk hn => h.block k hk (fun hF => hn (hG k hF hk))⟩
theorem Tch.of_below {F : Nat → Prop} {a b : World} (h : Below a.heap.size a b) : Tch F a b := ⟨h.os, h.tape, h.output, h.size, fun k hk _ => h.block k hk⟩
theorem Tch.of_grown {F : Nat → Prop} {a b : World} {row : Option Nat} (h : a.grownBy b row) (hr : ∀ k, row = some k → F k ∨ a.heap.size ≤ k) : Tch F a b :=
  ⟨h.os, h.tape, h.output, h.size, fun k hk hF => h.block k hk (fun e => (hr k e.symm).elim hF (by omega))⟩
theorem Tch.alloc (F : Nat → Prop) (w : World) (o : Obj) : Tch F w (w.alloc o) := .of_below ((Below.refl _ w).alloc (Nat.le_refl _) o)
theorem Tch.drew (F : Nat → Prop) (w : World) : Tch F w w.drew := ⟨rfl, rfl, rfl, Nat.le_refl _, fun _ _ _ => rfl⟩
theorem Tch.setCell {F : Nat → Prop} (w : World) {p : Addr} (u : Value) (hF : F p.block) : Tch F w (w.setCell p u) :=
  ⟨rfl, rfl, rfl, by simp [World.setCell], fun k hk hn => Below.heap_setCell _ _ _ _ (fun e => hn (e ▸ hF))⟩
theorem Tch.andAlloc {F : Nat → Prop} {a b : World} (h : Tch F a b) (o : Obj) : Tch F a (b.alloc o) := h.trans (Tch.alloc (fun _ => False) b o) (fun _ h => h.elim)
theorem Tch.andSet {F : Nat → Prop} {a b : World} (h : Tch F a b) {p : Addr} (u : Value) (hp : F p.block ∨ a.heap.size ≤ p.block) : Tch F a (b.setCell p u) :=
  h.trans (G := fun k => k = p.block) (Tch.setCell b u rfl) (fun k e => e ▸ hp)
theorem Tch.andBelow {F : Nat → Prop} {a b c : World} (h : Tch F a b) (g : Below b.heap.size b c) : Tch F a c := h.trans (Tch.of_below (F := fun _ => False) g) (fun _ h => h.elim)
theorem Tch.andGrown {F : Nat → Prop} {a b c : World} {row : Option Nat} (h : Tch F a b) (g : b.grownBy c row) (hr : ∀ k, row = some k → F k ∨ a.heap.size ≤ k) : Tch F a c :=
  h.trans (G := fun k => row = some k) (.of_grown g (fun k e => .inl e)) hr
theorem Tch.drewA {F : Nat → Prop} {a b : World} (h : Tch F a b) : Tch F a b.drew := ⟨h.os, h.tape, h.output, h.size, h.block⟩
theorem Tch.below {F : Nat → Prop} {w w' : World} {B : Nat} (h : Tch F w w') (hB : B ≤ w.heap.size) (hF : ∀ k, F k → B ≤ k) : Below B w w' :=
  ⟨h.os, h.tape, h.output, h.size, fun k hk => h.block k (by omega) (fun hf => by have := hF k hf; omega)⟩
/-- The set of an object's blocks behind a call: nothing but blocks of before and new ones. -/
def Ext (w : World) (F F' : Nat → Prop) : Prop := ∀ k, F' k → F k ∨ w.heap.size ≤ k
theorem Ext.refl (w : World) (F : Nat → Prop) : Ext w F F := fun _ h => .inl h
theorem Ext.trans {w w' : World} {F G H : Nat → Prop} (h : Ext w F G) (hs : w.heap.size ≤ w'.heap.size) (g : Ext w' G H) : Ext w F H :=
  fun k hk => (g k hk).elim (fun x => h k x) (fun x => .inr (Nat.le_trans hs x))
theorem Tch.next {F G : Nat → Prop} {a b c : World} (h : Tch F a b) (hE : Ext a F G) (g : Tch G b c) : Tch F a c := h.trans g hE
theorem cell_at {w : World} {b : Nat} {cs : Array Value} {t : TypeId} {z : Nat × Nat} (h : w.heap[b]? = some (.cells cs t z)) (i : Nat) : w.cell? ⟨b, i, none⟩ = cs[i]? := by
  unfold World.cell?
  rw [h]
  rfl
theorem melt_at {w : World} {b : Nat} {cs : Array Value} {t : TypeId} (h : w.heap[b]? = some (.cells cs t (0, 0))) (i : Nat) : w.frozen? ⟨b, i, none⟩ = false := by
  unfold World.frozen?
  rw [h]
  simp
theorem set_same {w : World} {b : Nat} {cs : Array Value} {t : TypeId} {z : Nat × Nat} (h : w.heap[b]? = some (.cells cs t z)) (i : Nat) (u : Value) : (w.setCell ⟨b, i, none⟩ u).heap[b]? = some (.cells (cs.setIfInBounds i u) t z) := by
  simp [World.setCell, Array.getElem?_modify, h]
theorem set_other {w : World} {b k : Nat} (i : Nat) (u : Value) (hk : k ≠ b) : (w.setCell ⟨b, i, none⟩ u).heap[k]? = w.heap[k]? := Below.heap_setCell _ _ _ _ hk
theorem alloc_new (w : World) (o : Obj) : (w.alloc o).heap[w.heap.size]? = some o := by
  show (w.heap.push o)[w.heap.size]? = _
  simp
theorem blk_lt {w : World} {k : Nat} {x : Obj} (h : w.heap[k]? = some x) : k < w.heap.size := (Array.getElem?_eq_some_iff.1 h).1
theorem Tch.keep {F : Nat → Prop} {w w' : World} (h : Tch F w w') {k : Nat} {x : Obj} (hk : w.heap[k]? = some x) (hF : ¬ F k) : w'.heap[k]? = some x := (h.block k (blk_lt hk) hF).trans hk
/-- A map's block, where it stays. -/
theorem map_move {H : Type} {P : Program} {k : TypeId} {R : Value → Option (DataW H × List MemPlace)} {w w' : World} {b n : Nat} {D : DataW H} (h : w.ownsMap P k R b n D) (hb : w'.heap[b]? = w.heap[b]?) : w'.ownsMap P k R b n D := by
  obtain ⟨es, clock, h1, h2, h3, h4⟩ := h
  exact ⟨es, clock, hb.trans h1, h2, h3, h4⟩
theorem map_count {H : Type} {P : Program} {k : TypeId} {R : Value → Option (DataW H × List MemPlace)} {w : World} {b n : Nat} {es : List (Lit × DataW H)} (h : w.ownsMap P k R b n (.map es)) : w.ownsMap P k R b es.length (.map es) := by
  obtain ⟨xs, clock, h1, h2, h3, h4⟩ := h
  refine ⟨xs, clock, h1, h2, ?_, h4⟩
  have : es = (xs.toList.map (WideElems.rg P k R)).foldr DataW.insert [] := by injection h4
  rw [this, length_sorted]
  simp
end Go.Proofs.Ytblmjnknagpacaa.Pl
/- PlM -/
namespace Go.Proofs.Ytblmjnknagpacaa.Pl
open Go
set_option linter.unusedVariables false
set_option linter.unusedSimpArgs false
abbrev L := List UInt8
structure Fil where
  safe : L
  loose : L
def Fil.all (f : Fil) : L := f.safe ++ f.loose
abbrev Dir := List (L × Nat)
abbrev Stp := L × Option Nat
structure Mach where
  files : List Fil
  safe : Dir
  steps : List Stp
  power : Int
  room : Int
def ins (x : L × Nat) : Dir → Dir
  | [] => [x]
  | y :: r => if bytesBefore x.1 y.1 then x :: y :: r else y :: ins x r
def rid (n : L) (d : Dir) : Dir := d.filter fun p => !(p.1 == n)
def put (d : Dir) (s : Stp) : Dir := match s.2 with
  | none => rid s.1 d
  | some k => ins (s.1, k) (rid s.1 d)
def after (d : Dir) (l : List Stp) : Dir := l.foldl put d
def Mach.now (m : Mach) : Dir := after m.safe m.steps
def look (d : Dir) (n : L) : Option Nat := (d.find? fun p => p.1 == n).map (·.2)
def Mach.find (m : Mach) (n : L) : Option Nat := look m.now n
def fileAt (fs : List Fil) (k : Nat) : Fil := fs.getD k ⟨[], []⟩
def nameB (c : UInt8) : Bool := decide (48 ≤ c.toNat ∧ c.toNat ≤ 57) || decide (97 ≤ c.toNat ∧ c.toNat ≤ 122) || c == 46 || c == 45
def nameOk (s : L) : Bool := !s.isEmpty && decide (s.length ≤ 32) && s.all nameB
def used (fs : List Fil) (d : Dir) : Nat := d.foldl (fun n p => n + (fileAt fs p.2).all.length) 0
def spend (p : Int) : Int := max (p - 1) (-1)
def fresh (room : Int) : Mach := ⟨[], [], [], -1, room⟩
def create (m : Mach) (n : L) : Int × Mach :=
  if nameOk n = false then (1, m)
  else if (m.find n).isSome then (11, m)
  else if 200 ≤ m.now.length then (12, m)
  else if m.power = 0 then (13, m)
  else (0, { m with files := m.files ++ [⟨[], []⟩], steps := m.steps ++ [(n, some m.files.length)], power := spend m.power })
def write (m : Mach) (n s : L) : Int × Mach := match m.find n with
  | none => (10, m)
  | some k =>
    if m.room - used m.files m.now < s.length then (12, m)
    else if m.power = 0 then (13, m)
    else (0, { m with files := m.files.set k ⟨(fileAt m.files k).safe, (fileAt m.files k).loose ++ s⟩, power := spend m.power })
def sync (m : Mach) (n : L) : Int × Mach := match m.find n with
  | none => (10, m)
  | some k =>
    if m.power = 0 then (13, m)
    else (0, { m with files := m.files.set k ⟨(fileAt m.files k).all, []⟩, power := spend m.power })
def rename (m : Mach) (a b : L) : Int × Mach := match m.find a with
  | none => (10, m)
  | some k =>
    if nameOk b = false then (1, m)
    else if m.power = 0 then (13, m)
    else (0, { m with steps := if a = b then m.steps else m.steps ++ [(b, some k), (a, none)], power := spend m.power })
def remove (m : Mach) (n : L) : Int × Mach := match m.find n with
  | none => (10, m)
  | some _ =>
    if m.power = 0 then (13, m)
    else (0, { m with steps := m.steps ++ [(n, none)], power := spend m.power })
def syncDir (m : Mach) : Int × Mach :=
  if m.power = 0 then (13, m) else (0, { m with safe := m.now, steps := [], power := spend m.power })
def read (m : Mach) (n : L) : L × Int := match m.find n with
  | none => ([], 10)
  | some k => ((fileAt m.files k).all, 0)
def list (m : Mach) : List L := m.now.map (·.1)
def limit (m : Mach) (n : Int) : Mach := { m with power := max n (-1) }
def clamp (x : Int) (n : Nat) : Nat := (max 0 (min x n)).toNat
def crash (m : Mach) (steps bytes : Int) : Mach :=
  { m with safe := after m.safe (m.steps.take (clamp steps m.steps.length)), steps := [], power := -1,
           files := m.files.map fun f => ⟨f.safe ++ f.loose.take (clamp bytes f.loose.length), []⟩ }
def Sorted (d : Dir) : Prop := d.Pairwise fun a b => bytesBefore a.1 b.1 = true
theorem before_ne {a b : L} (h : bytesBefore a b = true) : a ≠ b := by
  rintro rfl
  rw [WideAt.bytes_irrefl] at h
  cases h
theorem mem_rid {n : L} {d : Dir} {p : L × Nat} : p ∈ rid n d ↔ p ∈ d ∧ p.1 ≠ n := by
  unfold rid
  rw [List.mem_filter]
  simp
theorem mem_ins {x p : L × Nat} : ∀ {d : Dir}, p ∈ ins x d ↔ p = x ∨ p ∈ d
  | [] => by simp [ins]
  | y :: r => by
    unfold ins
    split
    · simp
    · rw [List.mem_cons, mem_ins, List.mem_cons]
      constructor
      · rintro (h | h | h)
        · exact .inr (.inl h)
        · exact .inl h
        · exact .inr (.inr h)
      · rintro (h | h | h)
        · exact .inr (.inl h)
        · exact .inl h
        · exact .inr (.inr h)
theorem ins_len (x : L × Nat) : ∀ d : Dir, (ins x d).length = d.length + 1
  | [] => rfl
  | y :: r => by
    unfold ins
    split
    · rfl
    · rw [List.length_cons, ins_len x r]; rfl
theorem sorted_rid {n : L} {d : Dir} (h : Sorted d) : Sorted (rid n d) := List.Pairwise.filter _ h
theorem sorted_ins {x : L × Nat} : ∀ {d : Dir}, Sorted d → (∀ p ∈ d, p.1 ≠ x.1) → Sorted (ins x d)
  | [], _, _ => by simp [ins, Sorted]
  | y :: r, h, hx => by
    have h1 := List.pairwise_cons.1 h
    unfold ins
    split
    · rename_i hb
      refine List.pairwise_cons.2 ⟨fun p hp => ?_, h⟩
      rcases List.mem_cons.1 hp with rfl | hp
      · exact hb
      · exact WideShapes.bytes_trans _ _ _ hb (h1.1 p hp)
    · rename_i hb
      refine List.pairwise_cons.2 ⟨fun p hp => ?_, sorted_ins h1.2 (fun p hp => hx p (List.mem_cons_of_mem _ hp))⟩
      rcases mem_ins.1 hp with rfl | hp
      · rcases WideAt.bytes_total y.1 p.1 (hx y List.mem_cons_self) with h2 | h2
        · exact h2
        · exact absurd h2 hb
      · exact h1.1 p hp
theorem sorted_put {d : Dir} (h : Sorted d) (s : Stp) : Sorted (put d s) := by
  unfold put
  split
  · exact sorted_rid h
  · exact sorted_ins (sorted_rid h) (fun p hp => (mem_rid.1 hp).2)
theorem sorted_after : ∀ (l : List Stp) {d : Dir}, Sorted d → Sorted (after d l)
  | [], _, h => h
  | s :: l, d, h => sorted_after l (sorted_put h s)
theorem after_append (d : Dir) (a b : List Stp) : after d (a ++ b) = after (after d a) b := List.foldl_append
theorem mem_put {d : Dir} {s : Stp} {p : L × Nat} : p ∈ put d s ↔ (s.2 = some p.2 ∧ p.1 = s.1) ∨ (p ∈ d ∧ p.1 ≠ s.1) := by
  obtain ⟨n, o⟩ := s
  unfold put
  cases o with
  | none => simp [mem_rid]
  | some k =>
    simp only [mem_ins, mem_rid]
    constructor
    · rintro (rfl | h)
      · exact .inl ⟨rfl, rfl⟩
      · exact .inr h
    · rintro (⟨h1, h2⟩ | h)
      · exact .inl (by obtain ⟨a, b⟩ := p; simp at h1 h2; rw [h1, h2])
      · exact .inr h
theorem sorted_inj : ∀ {d : Dir}, Sorted d → ∀ {n : L} {k j : Nat}, (n, k) ∈ d → (n, j) ∈ d → k = j
  | [], _, _, _, _, h, _ => by simp at h
  | x :: d, h, n, k, j, hk, hj => by
    have h1 := List.pairwise_cons.1 h
    rcases List.mem_cons.1 hk with e1 | k1
    · rcases List.mem_cons.1 hj with e2 | j1
      · have := congrArg Prod.snd (e1.trans e2.symm)
        exact this
      · subst e1
        exact (before_ne (h1.1 (n, j) j1) rfl).elim
    · rcases List.mem_cons.1 hj with e2 | j1
      · subst e2
        exact (before_ne (h1.1 (n, k) k1) rfl).elim
      · exact sorted_inj h1.2 k1 j1
theorem look_mem {d : Dir} {n : L} {k : Nat} (h : look d n = some k) : (n, k) ∈ d := by
  unfold look at h
  obtain ⟨p, hp, rfl⟩ := Option.map_eq_some_iff.1 h
  have h1 := List.mem_of_find?_eq_some hp
  have h2 := List.find?_some hp
  have : p.1 = n := by simpa using h2
  rw [← this]
  exact h1
theorem look_iff {d : Dir} (hs : Sorted d) {n : L} {k : Nat} : look d n = some k ↔ (n, k) ∈ d := by
  refine ⟨look_mem, fun h => ?_⟩
  cases hl : look d n with
  | none =>
    unfold look at hl
    rw [Option.map_eq_none_iff, List.find?_eq_none] at hl
    exact absurd (by simp) (hl _ h)
  | some j => rw [sorted_inj hs h (look_mem hl)]
theorem look_none {d : Dir} {n : L} : look d n = none ↔ ∀ k, (n, k) ∉ d := by
  constructor
  · intro h k hk
    unfold look at h
    rw [Option.map_eq_none_iff, List.find?_eq_none] at h
    exact h _ hk (by simp)
  · intro h
    cases hl : look d n with
    | none => rfl
    | some k => exact absurd (look_mem hl) (h k)
theorem rid_len (n : L) (d : Dir) : (rid n d).length ≤ d.length := List.length_filter_le _ _
theorem put_len (d : Dir) (s : Stp) : (put d s).length ≤ d.length + 1 := by
  unfold put
  split
  · exact Nat.le_trans (rid_len _ _) (Nat.le_succ _)
  · rw [ins_len]
    have := rid_len s.1 d
    omega
theorem after_len : ∀ (l : List Stp) (d : Dir), (after d l).length ≤ d.length + l.length
  | [], _ => Nat.le_refl _
  | s :: l, d => by
    have h1 := after_len l (put d s)
    have h2 := put_len d s
    show (after (put d s) l).length ≤ _
    rw [List.length_cons]
    omega
/-- What stands in a directory behind steps stood there ahead, or a step put it there. -/
theorem mem_after : ∀ (l : List Stp) (d : Dir) (p : L × Nat), p ∈ after d l → p ∈ d ∨ (p.1, some p.2) ∈ l
  | [], _, _, h => .inl h
  | s :: l, d, p, h => by
    rcases mem_after l (put d s) p h with h1 | h1
    · rcases mem_put.1 h1 with ⟨h2, h3⟩ | ⟨h2, _⟩
      · right
        rw [h3, ← h2]
        exact List.mem_cons_self
      · exact .inl h2
    · exact .inr (List.mem_cons_of_mem _ h1)
/-- A name that no step names keeps what it has. -/
theorem mem_after_other : ∀ (l : List Stp) (d : Dir) (p : L × Nat), (∀ s ∈ l, s.1 ≠ p.1) → (p ∈ after d l ↔ p ∈ d)
  | [], _, _, _ => Iff.rfl
  | s :: l, d, p, h => by
    have h1 := mem_after_other l (put d s) p (fun t ht => h t (List.mem_cons_of_mem _ ht))
    have h2 := h s List.mem_cons_self
    refine h1.trans ⟨fun h3 => ?_, fun h3 => mem_put.2 (.inr ⟨h3, fun e => h2 e.symm⟩)⟩
    rcases mem_put.1 h3 with ⟨_, h4⟩ | ⟨h4, _⟩
    · exact absurd h4.symm h2
    · exact h4
structure Inv (C : Nat) (m : Mach) : Prop where
  sorted : Sorted m.safe
  keyS : ∀ p ∈ m.safe, p.2 < m.files.length
  keyT : ∀ s ∈ m.steps, ∀ k, s.2 = some k → k < m.files.length
  size : ∀ f ∈ m.files, (f.all.length : Int) ≤ m.room
  room0 : 0 ≤ m.room
  room1 : m.room ≤ 4194304
  pow0 : -1 ≤ m.power
  pow1 : m.power ≤ 9223372036854775807
  count : m.safe.length + m.steps.length ≤ C
  many : m.files.length ≤ C
theorem Inv.mono {C C' : Nat} {m : Mach} (h : Inv C m) (hC : C ≤ C') : Inv C' m := ⟨h.sorted, h.keyS, h.keyT, h.size, h.room0, h.room1, h.pow0, h.pow1, Nat.le_trans h.count hC, Nat.le_trans h.many hC⟩
theorem Inv.now_sorted {C : Nat} {m : Mach} (h : Inv C m) : Sorted m.now := sorted_after _ h.sorted
theorem Inv.now_key {C : Nat} {m : Mach} (h : Inv C m) : ∀ p ∈ m.now, p.2 < m.files.length := by
  intro p hp
  rcases mem_after _ _ p hp with h1 | h1
  · exact h.keyS p h1
  · exact h.keyT _ h1 _ rfl
theorem Inv.now_len {C : Nat} {m : Mach} (h : Inv C m) : m.now.length ≤ C := Nat.le_trans (after_len _ _) h.count
theorem spend_ge {p : Int} (h : -1 ≤ p) (h0 : p ≠ 0) : -1 ≤ spend p ∧ spend p ≤ p := by unfold spend; omega
theorem now_snoc (m : Mach) (s : Stp) : after m.safe (m.steps ++ [s]) = put m.now s := by rw [after_append]; rfl
theorem fileAt_mem {fs : List Fil} {k : Nat} (h : k < fs.length) : fileAt fs k ∈ fs := by
  unfold fileAt
  rw [List.getD_eq_getElem?_getD, List.getElem?_eq_getElem h]
  exact List.getElem_mem h
theorem fresh_inv (room : Int) (h0 : 0 ≤ room) (h1 : room ≤ 4194304) (C : Nat) : Inv C (fresh room) :=
  ⟨List.Pairwise.nil, fun p hp => by simp [fresh] at hp, fun s hs => by simp [fresh] at hs, fun f hf => by simp [fresh] at hf, h0, h1, by simp [fresh], by simp [fresh], by simp [fresh], by simp [fresh]⟩
theorem create_inv {C : Nat} {m : Mach} (h : Inv C m) (n : L) : Inv (C + 2) (create m n).2 := by
  have hm := h.mono (C' := C + 2) (by omega)
  unfold create
  split
  · exact hm
  · split
    · exact hm
    · split
      · exact hm
      · split
        · exact hm
        · rename_i hp
          have hsp := spend_ge h.pow0 hp
          have hp1 := h.pow1
          have hc := h.count
          have hmn := h.many
          refine ⟨h.sorted, fun p hp => ?_, fun s hs k hk => ?_, fun f hf => ?_, h.room0, h.room1, hsp.1, by show spend m.power ≤ _; omega, ?_, ?_⟩
          · have := h.keyS p hp
            show p.2 < (m.files ++ [(⟨[], []⟩ : Fil)]).length
            rw [List.length_append]; omega
          · show k < (m.files ++ [(⟨[], []⟩ : Fil)]).length
            rw [List.length_append, List.length_singleton]
            rcases List.mem_append.1 hs with hs | hs
            · have := h.keyT s hs k hk; omega
            · rw [List.mem_singleton.1 hs] at hk
              have := Option.some.inj hk
              omega
          · rcases List.mem_append.1 hf with hf | hf
            · exact h.size f hf
            · rw [List.mem_singleton.1 hf]
              exact h.room0
          · show m.safe.length + (m.steps ++ [(n, some m.files.length)]).length ≤ C + 2
            rw [List.length_append, List.length_singleton]; omega
          · show (m.files ++ [(⟨[], []⟩ : Fil)]).length ≤ C + 2
            rw [List.length_append, List.length_singleton]; omega
theorem used_from (fs : List Fil) : ∀ (d : Dir) (n : Nat), d.foldl (fun n p => n + (fileAt fs p.2).all.length) n = n + used fs d
  | [], n => rfl
  | p :: d, n => by
    unfold used
    rw [List.foldl_cons, List.foldl_cons, used_from fs d, used_from fs d]
    omega
theorem used_cons (fs : List Fil) (p : L × Nat) (d : Dir) : used fs (p :: d) = (fileAt fs p.2).all.length + used fs d := by
  rw [used, List.foldl_cons, used_from]
  omega
theorem used_ge (fs : List Fil) : ∀ {d : Dir} {p : L × Nat}, p ∈ d → (fileAt fs p.2).all.length ≤ used fs d
  | q :: d, p, h => by
    rw [used_cons]
    rcases List.mem_cons.1 h with rfl | h
    · omega
    · have := used_ge fs h
      omega
theorem used_le {C : Nat} {m : Mach} (h : Inv C m) : ∀ (d : Dir), (∀ p ∈ d, p.2 < m.files.length) → used m.files d ≤ d.length * 4194304
  | [], _ => by simp [used]
  | p :: d, hd => by
    have h1 := used_le h d (fun q hq => hd q (List.mem_cons_of_mem _ hq))
    have h2 := h.size _ (fileAt_mem (hd p List.mem_cons_self))
    have h3 := h.room1
    rw [used_cons, List.length_cons]
    omega
theorem set_size {fs : List Fil} {k : Nat} {f : Fil} {R : Int} (h : ∀ f ∈ fs, (f.all.length : Int) ≤ R) (hf : (f.all.length : Int) ≤ R) : ∀ g ∈ fs.set k f, (g.all.length : Int) ≤ R := by
  intro g hg
  rcases List.mem_or_eq_of_mem_set hg with h1 | rfl
  · exact h g h1
  · exact hf
theorem write_inv {C : Nat} {m : Mach} (h : Inv C m) (n s : L) : Inv C (write m n s).2 := by
  unfold write
  split
  · exact h
  · rename_i k hk
    split
    · exact h
    · rename_i hr
      split
      · exact h
      · rename_i hp
        have hsp := spend_ge h.pow0 hp
        have hp1 := h.pow1
        have hu := used_ge m.files (look_mem hk)
        have hu' : (fileAt m.files k).all.length ≤ used m.files m.now := hu
        refine ⟨h.sorted, fun p hp => ?_, fun s hs k hk => ?_, set_size h.size ?_, h.room0, h.room1, hsp.1, by show spend m.power ≤ _; omega, h.count, ?_⟩
        · show p.2 < (m.files.set _ _).length
          rw [List.length_set]; exact h.keyS p hp
        · show k < (m.files.set _ _).length
          rw [List.length_set]; exact h.keyT s hs k hk
        · unfold Fil.all at hu' ⊢
          rw [List.length_append] at hu' ⊢
          rw [List.length_append]
          show ((fileAt m.files k).safe.length + ((fileAt m.files k).loose.length + s.length) : Nat) ≤ m.room
          omega
        · show (m.files.set _ _).length ≤ C
          rw [List.length_set]; exact h.many
theorem sync_inv {C : Nat} {m : Mach} (h : Inv C m) (n : L) : Inv C (sync m n).2 := by
  unfold sync
  split
  · exact h
  · rename_i k hk
    split
    · exact h
    · rename_i hp
      have hsp := spend_ge h.pow0 hp
      have hp1 := h.pow1
      have hkl : k < m.files.length := h.now_key _ (look_mem hk)
      refine ⟨h.sorted, fun p hp => ?_, fun s hs k hk => ?_, set_size h.size ?_, h.room0, h.room1, hsp.1, by show spend m.power ≤ _; omega, h.count, ?_⟩
      · show p.2 < (m.files.set _ _).length
        rw [List.length_set]; exact h.keyS p hp
      · show k < (m.files.set _ _).length
        rw [List.length_set]; exact h.keyT s hs k hk
      · have := h.size _ (fileAt_mem hkl)
        show (((fileAt m.files k).all ++ []).length : Int) ≤ _
        rw [List.append_nil]; exact this
      · show (m.files.set _ _).length ≤ C
        rw [List.length_set]; exact h.many
theorem rename_inv {C : Nat} {m : Mach} (h : Inv C m) (a b : L) : Inv (C + 2) (rename m a b).2 := by
  have hm := h.mono (C' := C + 2) (by omega)
  unfold rename
  split
  · exact hm
  · rename_i k hk
    have hkl : k < m.files.length := h.now_key _ (look_mem hk)
    split
    · exact hm
    · split
      · exact hm
      · rename_i hp
        have hsp := spend_ge h.pow0 hp
        have hp1 := h.pow1
        have hc := h.count
        refine ⟨h.sorted, h.keyS, fun s hs j hj => ?_, h.size, h.room0, h.room1, hsp.1, by show spend m.power ≤ _; omega, ?_, by have := h.many; show m.files.length ≤ _; omega⟩
        · show j < m.files.length
          have hs' : s ∈ (if a = b then m.steps else m.steps ++ [(b, some k), (a, none)]) := hs
          split at hs'
          · exact h.keyT s hs' j hj
          · rcases List.mem_append.1 hs' with hs' | hs'
            · exact h.keyT s hs' j hj
            · simp at hs'
              rcases hs' with rfl | rfl
              · have := Option.some.inj hj; omega
              · cases hj
        · show m.safe.length + (if a = b then m.steps else m.steps ++ [(b, some k), (a, none)]).length ≤ C + 2
          split
          · omega
          · rw [List.length_append]; simp; omega
theorem remove_inv {C : Nat} {m : Mach} (h : Inv C m) (n : L) : Inv (C + 2) (remove m n).2 := by
  have hm := h.mono (C' := C + 2) (by omega)
  unfold remove
  split
  · exact hm
  · split
    · exact hm
    · rename_i hp
      have hsp := spend_ge h.pow0 hp
      have hp1 := h.pow1
      have hc := h.count
      refine ⟨h.sorted, h.keyS, fun s hs j hj => ?_, h.size, h.room0, h.room1, hsp.1, by show spend m.power ≤ _; omega, ?_, by have := h.many; show m.files.length ≤ _; omega⟩
      · rcases List.mem_append.1 hs with hs | hs
        · exact h.keyT s hs j hj
        · rw [List.mem_singleton.1 hs] at hj
          cases hj
      · show m.safe.length + (m.steps ++ [(n, none)]).length ≤ C + 2
        rw [List.length_append, List.length_singleton]; omega
theorem syncDir_inv {C : Nat} {m : Mach} (h : Inv C m) : Inv C (syncDir m).2 := by
  unfold syncDir
  split
  · exact h
  · rename_i hp
    have hsp := spend_ge h.pow0 hp
    have hp1 := h.pow1
    exact ⟨h.now_sorted, h.now_key, fun s hs => by simp at hs, h.size, h.room0, h.room1, hsp.1, by show spend m.power ≤ _; omega, by have := h.now_len; simpa using this, h.many⟩
theorem limit_inv {C : Nat} {m : Mach} (h : Inv C m) (n : Int) (hn : n ≤ 9223372036854775807) : Inv C (limit m n) :=
  ⟨h.sorted, h.keyS, h.keyT, h.size, h.room0, h.room1, by show -1 ≤ max n (-1); omega, by show max n (-1) ≤ _; omega, h.count, h.many⟩
theorem crash_inv {C : Nat} {m : Mach} (h : Inv C m) (s b : Int) : Inv C (crash m s b) := by
  have ht : (m.steps.take (clamp s m.steps.length)).length ≤ m.steps.length := List.length_take_le' _ _
  refine ⟨sorted_after _ h.sorted, fun p hp => ?_, fun s hs => by simp [crash] at hs, fun f hf => ?_, h.room0, h.room1, by simp [crash], by simp [crash], ?_, ?_⟩
  · show p.2 < (m.files.map _).length
    rw [List.length_map]
    rcases mem_after _ _ p hp with h1 | h1
    · exact h.keyS p h1
    · exact h.keyT _ (List.mem_of_mem_take h1) _ rfl
  · obtain ⟨g, hg, rfl⟩ := List.mem_map.1 hf
    have h1 := h.size g hg
    show (((g.safe ++ g.loose.take _) ++ []).length : Int) ≤ m.room
    unfold Fil.all at h1
    rw [List.length_append] at h1
    rw [List.append_nil, List.length_append, List.length_take]
    omega
  · have h1 := after_len (m.steps.take (clamp s m.steps.length)) m.safe
    have h2 := h.count
    show (after m.safe (m.steps.take (clamp s m.steps.length))).length + ([] : List Stp).length ≤ C
    simp only [List.length_nil]
    omega
  · show (m.files.map _).length ≤ C
    rw [List.length_map]; exact h.many
end Go.Proofs.Ytblmjnknagpacaa.Pl
/- PlD -/
namespace Go.Proofs.Ytblmjnknagpacaa.Pl
open Go Go.Maps
set_option linter.unusedVariables false
set_option linter.unusedSimpArgs false
/-- How an element of a map (a pointer) reads: as itself. -/
def rawE : Value → Option (DataW Value × List MemPlace)
  | .pointer q => some (.held (.pointer q), [])
  | _ => none
theorem rawE_inv {v : Value} {y : DataW Value × List MemPlace} (h : rawE v = some y) : ∃ q, v = .pointer q ∧ y = (.held (.pointer q), []) := by
  cases v <;> simp [rawE] at h
  exact ⟨_, rfl, h.symm⟩
def ptrK (K : Nat → Addr) (k : Nat) : DataW Value := .held (.pointer (some (K k)))
def ent (K : Nat → Addr) (p : L × Nat) : Lit × DataW Value := (.string p.1, ptrK K p.2)
def dirD (K : Nat → Addr) (d : Dir) : DataW Value := .map (d.map (ent K))
theorem same_str (a b : L) : (Lit.string a).sameKey (.string b) = (a == b) := rfl
theorem filter_dir (K : Nat → Addr) (n : L) (d : Dir) : (d.map (ent K)).filter (fun p => !p.1.sameKey (.string n)) = (rid n d).map (ent K) := by
  unfold rid
  rw [List.filter_map]
  rfl
theorem ins_dir (K : Nat → Addr) (x : L × Nat) : ∀ d : Dir, DataW.insert (ent K x) (d.map (ent K)) = (ins x d).map (ent K)
  | [] => rfl
  | y :: r => by
    unfold ins
    rw [List.map_cons, DataW.insert]
    have : (ent K x).1.before (ent K y).1 = bytesBefore x.1 y.1 := rfl
    rw [this]
    split
    · rfl
    · rw [ins_dir K x r]; rfl
theorem dir_put (K : Nat → Addr) (d : Dir) (n : L) (k : Nat) : (dirD K d).put (.string n) (ptrK K k) = dirD K (ins (n, k) (rid n d)) := by
  unfold dirD DataW.put
  simp only
  rw [filter_dir]
  exact congrArg _ (ins_dir K (n, k) (rid n d))
theorem dir_del (K : Nat → Addr) (d : Dir) (n : L) : (dirD K d).del (.string n) = dirD K (rid n d) := by
  unfold dirD DataW.del
  simp only
  rw [filter_dir]
theorem dir_at (K : Nat → Addr) (d : Dir) (n : L) (z : DataW Value) : (dirD K d).atKey (.string n) z = match look d n with
    | some k => ptrK K k
    | none => z := by
  unfold dirD DataW.atKey look
  simp only
  rw [List.find?_map]
  have : ((fun p : Lit × DataW Value => p.1.sameKey (.string n)) ∘ ent K) = fun p : L × Nat => p.1 == n := rfl
  rw [this]
  cases d.find? (fun p => p.1 == n) <;> rfl
theorem dir_size (K : Nat → Addr) (d : Dir) : Maps.size (dirD K d) = d.length := by
  unfold dirD
  rw [size_eq, List.length_map]
theorem dir_keys (K : Nat → Addr) (d : Dir) : strKeys (dirD K d) = d.map (·.1) := by
  unfold dirD strKeys
  simp only [List.map_map]
  rfl
theorem dir_congr {K K' : Nat → Addr} {d : Dir} (h : ∀ p ∈ d, K p.2 = K' p.2) : dirD K d = dirD K' d := by
  unfold dirD
  congr 1
  refine List.map_congr_left (fun p hp => ?_)
  unfold ent ptrK
  rw [h p hp]
theorem before_le : ∀ {a b : L}, bytesBefore a b = true → a ≤ b
  | [], _, _ => List.nil_le _
  | _ :: _, [], h => by simp [bytesBefore] at h
  | x :: a, y :: b, h => by
    unfold bytesBefore at h
    rw [Bool.or_eq_true, Bool.and_eq_true] at h
    rcases h with h | ⟨h1, h2⟩
    · have : x < y := by simpa using h
      exact List.cons_le_cons_iff.2 (.inl this)
    · have e : x = y := by simpa using h1
      subst e
      exact List.cons_le_cons_iff.2 (.inr ⟨rfl, before_le h2⟩)
theorem le_anti {a b : L} (h1 : a ≤ b) (h2 : b ≤ a) : a = b := List.le_antisymm h1 h2
theorem sorted_unique : ∀ {a b : List L}, a.Perm b → a.Pairwise (fun x y => x ≤ y) → b.Pairwise (fun x y => x ≤ y) → a = b := by
  intro a
  induction a with
  | nil => intro b h _ _; exact (List.nil_perm.1 h).symm
  | cons x a ih =>
    intro b h ha hb
    cases b with
    | nil => exact absurd h.length_eq (by simp)
    | cons y b =>
      have h1 := List.pairwise_cons.1 ha
      have h2 := List.pairwise_cons.1 hb
      have e : x = y := by
        rcases List.mem_cons.1 (h.mem_iff.1 List.mem_cons_self) with e | hx
        · exact e
        · rcases List.mem_cons.1 (h.mem_iff.2 List.mem_cons_self) with e | hy
          · exact e.symm
          · exact le_anti (h1.1 _ hy) (h2.1 _ hx)
      subst e
      rw [ih (List.Perm.cons_inv h) h1.2 h2.2]
theorem keys_sorted {d : Dir} (h : Sorted d) {ss : List L} (hp : ss.Perm (d.map (·.1))) : ss.mergeSort (fun x y => decide (x ≤ y)) = d.map (·.1) := by
  refine sorted_unique ((List.mergeSort_perm ss _).trans hp) ?_ ?_
  · have := List.pairwise_mergeSort (le := fun x y : L => decide (x ≤ y)) (fun a b c h1 h2 => by
      have h1 := of_decide_eq_true h1
      have h2 := of_decide_eq_true h2
      exact decide_eq_true (List.le_trans h1 h2)) (fun a b => by
      rcases List.le_total a b with h | h
      · simp [h]
      · simp [h]) ss
    exact this.imp (fun h => of_decide_eq_true h)
  · rw [List.pairwise_map]
    exact h.imp (fun hb => before_le hb)
end Go.Proofs.Ytblmjnknagpacaa.Pl
/- PlA -/
namespace Go.Proofs.Ytblmjnknagpacaa.Pl
open Go Go.RowKit Go.Maps
set_option linter.unusedVariables false
set_option linter.unusedSimpArgs false
/-- What a panic with an error of number n bears. -/
def errV (n : Int) : Value := .iface 23 (.int .i64 n)
def chain (n : Int) : List PanicEntry := [{ v := errV n, recovered := false }]
theorem caught_panicking (p : Addr) (x n : Int) (w : World) (hc : w.cell? p = some (.int .i64 x)) (hz : w.frozen? p = false) :
    CallsD Try.prog 22 #[.pointer (some p)] (.panicking ({ v := errV n, recovered := false } :: [])) w fun e u' w' =>
      e = .returned (.tuple #[]) ∧ u' = .panicking ({ v := errV n, recovered := true } :: []) ∧ w' = w.setCell p (.int .i64 n) := by
  have hta : ∀ w : World, (Instr.typeAssert (.iface 23 (.int .i64 n)) 20 23 false).run Try.prog w = .ok (.int .i64 n) w := fun w => by kernel_rfl
  refine callsD_of_wpS Try.func22 rfl fun c₀ cs hu => ?_
  apply wpS_seq
  apply wpS_region
  simp [wpOpsS, go_sem, recoverD, hu, Try.ntmps22, Exit.thenS]
  apply wpS_seq
  apply wpS_region
  simp [wpOpsS, go_sem, Exit.thenS, errV]
  refine wpS_cond (t := true) (by simp [Act.eval, Array.replicate]) ?_
  simp only [if_true]
  apply wpS_region
  simp [wpOpsS, go_sem, hta, hc, hz, bodyPostS, results, Try.results22]
theorem caught_idle (p : Addr) (w : World) :
    CallsD Try.prog 22 #[.pointer (some p)] .returning w fun e u' w' => e = .returned (.tuple #[]) ∧ u' = .returning ∧ w' = w := by
  refine callsD_of_wpS Try.func22 rfl fun c₀ cs hu => ?_
  apply wpS_seq
  apply wpS_region
  simp [wpOpsS, go_sem, recoverD, hu, Try.ntmps22, Exit.thenS]
  apply wpS_seq
  apply wpS_region
  simp [wpOpsS, go_sem, Exit.thenS]
  refine wpS_cond (t := false) (by simp [Act.eval, Array.replicate]) ?_
  simp only [Bool.false_eq_true, if_false]
  refine wpS_of_wp (wp_skip ?_)
  cases c₀
  simp_all [bodyPostS, results, Try.results22]
theorem check_ok (n : Int) (w : World) : Calls Try.prog 23 #[.bool true, .int .i64 n] w fun e w' => e = .returned (.tuple #[]) ∧ w' = w := by
  go_enter Try.func23, Try.ntmps23
  go_wp2
  go_end0
  exact ⟨rfl, rfl⟩
theorem check_no (n : Int) (w : World) : Calls Try.prog 23 #[.bool false, .int .i64 n] w fun e w' => e = .panicked (chain n) ∧ w' = w := by
  go_enter Try.func23, Try.ntmps23
  go_wp2
  exact ⟨rfl, rfl, rfl⟩
/-- A plate's own block. -/
def topC (sf nw st : Value) (pw rm : Int) : Obj := .cells #[sf, nw, st, .int .i64 pw, .int .i64 rm] 55 (0, 0)
theorem spend_no (bp : Nat) (sf nw st : Value) (rm : Int) (w : World) (top : w.heap[bp]? = some (topC sf nw st 0 rm)) :
    Calls Try.prog 25 #[.pointer (some ⟨bp, 0, none⟩)] w fun e w' => e = .panicked (chain 13) ∧ w' = w := by
  have c3 : w.cell? ⟨bp, 3, none⟩ = some (.int .i64 0) := cell_at top 3
  go_enter Try.func25, Try.ntmps25
  go_wp2_with (first
    | (go_at_call 23; refine (check_no 13 _).mono ?_; rintro e w' ⟨rfl, rfl⟩)
    | go_in)
  exact ⟨rfl, rfl, rfl⟩
theorem spend_ok (bp : Nat) (sf nw st : Value) (pw rm : Int) (w : World) (top : w.heap[bp]? = some (topC sf nw st pw rm)) (h0 : pw ≠ 0) (h1 : -1 ≤ pw) (h2 : pw ≤ 9223372036854775807) :
    Calls Try.prog 25 #[.pointer (some ⟨bp, 0, none⟩)] w fun e w' => e = .returned (.tuple #[]) ∧ w' = w.setCell ⟨bp, 3, none⟩ (.int .i64 (spend pw)) := by
  have c3 : w.cell? ⟨bp, 3, none⟩ = some (.int .i64 pw) := cell_at top 3
  have f3 : w.frozen? ⟨bp, 3, none⟩ = false := melt_at top 3
  have hb : (pw != 0) = true := by simpa using h0
  go_enter Try.func25, Try.ntmps25
  go_wp2_with (first
    | (go_at_call 23; refine (check_ok 13 _).mono ?_; rintro e w' ⟨rfl, rfl⟩)
    | go_in)
  all_goals (go_end0; refine ⟨rfl, ?_⟩; congr 2 <;> (unfold spend; omega))
theorem keyS : Keyed Try.prog 9 := string_keyed Try.underlying9
theorem zeroF (w : World) : (zeroValue 65).run Try.prog w = .ok (.pointer none) w := by kernel_rfl
abbrev OwnDir (w : World) (b : Nat) (K : Nat → Addr) (d : Dir) : Prop := w.ownsMap Try.prog 9 rawE b d.length (dirD K d)
theorem own_dir {w : World} {b n : Nat} {K : Nat → Addr} {d : Dir} (h : w.ownsMap Try.prog 9 rawE b n (dirD K d)) : OwnDir w b K d := by
  have h1 := map_count (es := d.map (ent K)) h
  rw [List.length_map] at h1
  exact h1
theorem dir_lookup {w : World} {b : Nat} {K : Nat → Addr} {d : Dir} (h : OwnDir w b K d) (s : ByteArray) (hs : s.size ≤ maxLen) :
    (Instr.lookup 52 (.map (some b)) (.string s) false).run Try.prog w = .ok (match look d s.data.toList with | some k => .pointer (some (K k)) | none => .pointer none) w := by
  obtain ⟨v, ps, hrun, hR⟩ := h.lookup keyS Try.underlying52 (zeroF w) (R := rawE) (zd := .held (.pointer none)) (zp := []) rfl (WideMaps.keyOf_string_mk Try.underlying9 hs)
  obtain ⟨q, rfl, hy⟩ := rawE_inv hR
  rw [hrun]
  have h1 := congrArg Prod.fst hy
  rw [dir_at] at h1
  cases hl : look d s.data.toList with
  | none =>
    rw [hl] at h1
    simp at h1
    rw [← h1]
  | some k =>
    rw [hl] at h1
    simp [ptrK] at h1
    rw [← h1]
theorem file_ok (bp bn : Nat) (sf st : Value) (pw rm : Int) (K : Nat → Addr) (d : Dir) (s : ByteArray) (k : Nat) (w : World) (top : w.heap[bp]? = some (topC sf (.map (some bn)) st pw rm)) (hd : OwnDir w bn K d) (hs : s.size ≤ maxLen) (hl : look d s.data.toList = some k) :
    Calls Try.prog 42 #[.pointer (some ⟨bp, 0, none⟩), .string s] w fun e w' => e = .returned (.pointer (some (K k))) ∧ w' = w := by
  have c1 : w.cell? ⟨bp, 1, none⟩ = some (.map (some bn)) := cell_at top 1
  have hrun := dir_lookup hd s hs
  rw [hl] at hrun
  simp only at hrun
  go_enter Try.func42, Try.ntmps42
  go_wp2_with (first
    | (go_at_call 23; refine (check_ok 10 _).mono ?_; rintro e w' ⟨rfl, rfl⟩)
    | go_in)
  go_ret
  exact ⟨rfl, rfl⟩
theorem file_no (bp bn : Nat) (sf st : Value) (pw rm : Int) (K : Nat → Addr) (d : Dir) (s : ByteArray) (w : World) (top : w.heap[bp]? = some (topC sf (.map (some bn)) st pw rm)) (hd : OwnDir w bn K d) (hs : s.size ≤ maxLen) (hl : look d s.data.toList = none) :
    Calls Try.prog 42 #[.pointer (some ⟨bp, 0, none⟩), .string s] w fun e w' => e = .panicked (chain 10) ∧ w' = w := by
  have c1 : w.cell? ⟨bp, 1, none⟩ = some (.map (some bn)) := cell_at top 1
  have hrun := dir_lookup hd s hs
  rw [hl] at hrun
  simp only at hrun
  go_enter Try.func42, Try.ntmps42
  go_wp2_with (first
    | (go_at_call 23; refine (check_no 10 _).mono ?_; rintro e w' ⟨rfl, rfl⟩)
    | go_in)
  exact ⟨rfl, rfl, rfl⟩
/-- A step done: a name gets a file. -/
theorem do_put (b : Nat) (K : Nat → Addr) (d : Dir) (s : ByteArray) (k : Nat) (w : World) (hd : OwnDir w b K d) (hs : s.size ≤ maxLen) (hn : d.length < maxLen) :
    Calls Try.prog 45 #[.map (some b), .agg #[.string s, .pointer (some (K k))]] w fun e w' => e = .returned (.tuple #[]) ∧ OwnDir w' b K (put d (s.data.toList, some k)) ∧ Tch (fun i => i = b) w w' := by
  have hkey := WideMaps.keyOf_string_mk (P := Try.prog) (k := 9) Try.underlying9 hs
  go_enter Try.func45, Try.ntmps45
  go_wp2_with (first
    | (at_mapUpdate; refine wpList_mapUpdate_own _ rfl _ _ _ 52 rfl 9 65 keyS Try.underlying52 rawE b d.length (dirD K d) rfl (hd.alloc _) hn _ _ _ rfl rfl hkey _ _ rfl ?_; intro w1 hown1 hg1)
    | go_in)
  go_end0
  refine ⟨rfl, ?_, (Tch.alloc _ w _).andGrown hg1 (fun k e => .inl (Option.some.inj e).symm)⟩
  exact own_dir (show w1.ownsMap Try.prog 9 rawE b (d.length + 1) (dirD K (ins (s.data.toList, k) (rid s.data.toList d))) by rw [← dir_put]; exact hown1)
theorem do_del (b : Nat) (K : Nat → Addr) (d : Dir) (s : ByteArray) (w : World) (hd : OwnDir w b K d) (hs : s.size ≤ maxLen) :
    Calls Try.prog 45 #[.map (some b), .agg #[.string s, .pointer none]] w fun e w' => e = .returned (.tuple #[]) ∧ OwnDir w' b K (put d (s.data.toList, none)) ∧ Tch (fun i => i = b) w w' := by
  have hkey := WideMaps.keyOf_string_mk (P := Try.prog) (k := 9) Try.underlying9 hs
  go_enter Try.func45, Try.ntmps45
  go_wp2_with (first
    | (at_delete; refine wpList_delete_own _ rfl _ _ 52 9 rfl 65 keyS Try.underlying52 rawE b d.length (dirD K d) rfl (hd.alloc _) _ _ rfl hkey ?_; intro w1 hown1 hturn1)
    | go_in)
  go_end0
  refine ⟨rfl, ?_, (Tch.alloc _ w _).andGrown hturn1.grown (fun k e => .inl (Option.some.inj e).symm)⟩
  exact own_dir (show w1.ownsMap Try.prog 9 rawE b d.length (dirD K (rid s.data.toList d)) by rw [← dir_del]; exact hown1)
end Go.Proofs.Ytblmjnknagpacaa.Pl
/- Shelf -/
namespace Go.Proofs
open Go.Shelf
def Try.laysGw17_ren : Go.Shelf.Ren := ⟨fun | 17 => 49 | 15 => 56 | 20 => 60 | n => n, fun | 9 => 9 | 23 => 87 | 4 => 4 | 3 => 3 | 0 => 0 | 21 => 21 | n => n, fun | n => n⟩
theorem Try.laysGw17 : Go.Proofs.LaysGw.n17 Try.prog Try.laysGw17_ren := {
  mixed := by kernel_rfl
  f15 := Try.func56.trans (congrArg some (by kernel_rfl))
  f17 := Try.func49.trans (congrArg some (by kernel_rfl))
  f20 := Try.func60.trans (congrArg some (by kernel_rfl))
  t0 := Try.underlying0
  a0 := Try.isAgg0
  z0 := Try.sizeOf0
  v0 := Try.zeroValue0
  i0 := by kernel_rfl
  t3 := Try.underlying3
  a3 := Try.isAgg3
  z3 := Try.sizeOf3
  v3 := Try.zeroValue3
  i3 := by kernel_rfl
  t4 := Try.underlying4
  a4 := Try.isAgg4
  z4 := Try.sizeOf4
  v4 := Try.zeroValue4
  i4 := by kernel_rfl
  t9 := Try.underlying9
  a9 := Try.isAgg9
  z9 := Try.sizeOf9
  v9 := Try.zeroValue9
  i9 := by kernel_rfl
  t21 := Try.underlying21
  a21 := Try.isAgg21
  z21 := Try.sizeOf21
  v21 := Try.zeroValue21
  i21 := by kernel_rfl
  t23 := Try.underlying87
  a23 := Try.isAgg87
  z23 := Try.sizeOf87
  v23 := Try.zeroValue87
  i23 := by kernel_rfl }
open Go.RowKit Go.Lib in
theorem Try.strings_ContainsFunc (g : Nat) (lb : Array Value) (eg : ∀ args w, (callFunc g args).run Try.prog w = .ok (.enter g args) w) (p : Nat → Bool) (s : ByteArray) (w : World) (hp : PredAt Try.prog g lb encR p w) :
    Calls Try.prog 49 #[.string s, .func (.func g) #[] lb] w fun e w' => e = .returned (.bool (decide (0 ≤ Lib.idxFunc p true s))) ∧ Below w.heap.size w w' := Any.strings_ContainsFunc Try.laysGw17 g lb eg p s w hp
end Go.Proofs
