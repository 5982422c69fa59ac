/- Texts of this seat, joined: lemmas and walks that its statements' proofs use. -/
import Derived.Test.YtblmjnknagpacaaK4
import Derived.Test.YtblmjnknagpacaaK5
import Derived.Test.YtblmjnknagpacaaRows
import Derived.Deep.Slices
import Derived.ChangeSame
/- PlTb -/
namespace Go.Proofs.Ytblmjnknagpacaa.Pl
open Go Go.RowKit Go.Maps Go.Proofs.YtblmjnknagpacaaW.PrintWords
set_option linter.unusedVariables false
set_option linter.unusedSimpArgs false
section
variable {w w' : World} {bp br : Nat} {m mr : Mach} {H : Nat → Prop} {C : Nat}
theorem two_p (h : Two w bp br m mr H) : ∃ F, Plate w bp m F ∧ ∀ w' m', Plate w' bp m' (grow F w w') → Tch F w w' → Two w' bp br m' mr (grow H w w') ∧ Tch H w w' := by
  obtain ⟨F, G, hp, hr, hd, hF, hH⟩ := h
  refine ⟨F, hp, fun w' m' hp' t => ?_⟩
  have hr' : RPlate w' br mr (grow G w' w') := by
    obtain ⟨a, b, c, pp, hg⟩ := hr.next t (fun i hg _ hf => hd i hf hg)
    exact ⟨a, b, c, pp, fun i hi => .inl (hg i hi)⟩
  exact two_done hd hF hH (Tch.refl _ _) hp' t (Tch.refl _ _) hr' (Tch.refl _ _)
theorem two_r (h : Two w bp br m mr H) : ∃ G, RPlate w br mr G ∧ ∀ w' mr', RPlate w' br mr' (grow G w w') → Tch G w w' → Two w' bp br m mr' (grow H w w') ∧ Tch H w w' := by
  obtain ⟨F, G, hp, hr, hd, hF, hH⟩ := h
  refine ⟨G, hr, fun w' mr' hr' t => ?_⟩
  have hp' : Plate w bp m (grow F w w) := hp.widen (fun i hi => .inl hi)
  exact two_done hd hF hH (Tch.refl _ _) hp' (Tch.refl _ _) (Tch.refl _ _) hr' t
theorem Both.mono {C' : Nat} (h : Both C w bp br m mr H) (hC : C ≤ C') : Both C' w bp br m mr H := ⟨h.two, h.inv.mono hC, h.invr.mono hC, h.tame, h.tamer⟩
theorem Both.below (h : Both C w bp br m mr H) (hb : Below w.heap.size w w') : Both C w' bp br m mr H := ⟨h.two.below hb, h.inv, h.invr, h.tame, h.tamer⟩
theorem Both.move (h : Both C w bp br m mr H) {X : Nat → Prop} (ht : Tch X w w') (hX : ∀ i, H i → ¬ X i) : Both C w' bp br m mr H := ⟨h.two.tch ht hX, h.inv, h.invr, h.tame, h.tamer⟩
theorem p_create {s : ByteArray} (h : Both C w bp br m mr H) (hC : C ≤ 10000000) (hs : s.size ≤ 100000000000000) :
    Calls Try.prog 8 #[.pointer (some ⟨bp, 0, none⟩), .string s] w fun e w' => e = .returned (.int .i64 (create m s.data.toList).1) ∧ Both (C + 2) w' bp br (create m s.data.toList).2 mr (grow H w w') ∧ Tch H w w' := by
  obtain ⟨F, hp, hnext⟩ := two_p h.two
  refine (Create_calls bp m F s w hp h.inv zb6 hs).mono ?_
  rintro e w' ⟨he, hp', t⟩
  obtain ⟨h1, h2⟩ := hnext _ _ hp' t
  exact ⟨he, ⟨h1, create_inv h.inv _, h.invr.mono zb6, h.tame.create (by rw [← Lib.size_eq]; exact hs), h.tamer⟩, h2⟩
theorem p_write {s t : ByteArray} (h : Both C w bp br m mr H) (hC : C ≤ 10000000) (hs : s.size ≤ 100000000000000) (hts : t.size ≤ 1000000000) :
    Calls Try.prog 15 #[.pointer (some ⟨bp, 0, none⟩), .string s, .string t] w fun e w' => e = .returned (.int .i64 (write m s.data.toList t.data.toList).1) ∧ Both C w' bp br (write m s.data.toList t.data.toList).2 mr (grow H w w') ∧ Tch H w w' := by
  obtain ⟨F, hp, hnext⟩ := two_p h.two
  refine (Write_calls s t hp h.inv zb6 hs hts).mono ?_
  rintro e w' ⟨he, hp', t'⟩
  obtain ⟨h1, h2⟩ := hnext _ _ hp' t'
  have h3 := h.tame.act 3 (a := s.data.toList) (b := []) (s := t.data.toList) (by rw [← Lib.size_eq]; exact hs) zb8 0 0
  exact ⟨he, ⟨h1, write_inv h.inv _ _, h.invr, h3, h.tamer⟩, h2⟩
theorem p_sync {s : ByteArray} (h : Both C w bp br m mr H) (hs : s.size ≤ 100000000000000) :
    Calls Try.prog 16 #[.pointer (some ⟨bp, 0, none⟩), .string s] w fun e w' => e = .returned (.int .i64 (sync m s.data.toList).1) ∧ Both C w' bp br (sync m s.data.toList).2 mr (grow H w w') ∧ Tch H w w' := by
  obtain ⟨F, hp, hnext⟩ := two_p h.two
  refine (Sync_calls s hp h.inv hs).mono ?_
  rintro e w' ⟨he, hp', t'⟩
  obtain ⟨h1, h2⟩ := hnext _ _ hp' t'
  have h3 := h.tame.act 6 (a := s.data.toList) (b := []) (s := []) (by rw [← Lib.size_eq]; exact hs) zb8 0 0
  exact ⟨he, ⟨h1, sync_inv h.inv _, h.invr, h3, h.tamer⟩, h2⟩
theorem p_syncDir (h : Both C w bp br m mr H) :
    Calls Try.prog 17 #[.pointer (some ⟨bp, 0, none⟩)] w fun e w' => e = .returned (.int .i64 (syncDir m).1) ∧ Both C w' bp br (syncDir m).2 mr (grow H w w') ∧ Tch H w w' := by
  obtain ⟨F, hp, hnext⟩ := two_p h.two
  refine (SyncDir_calls hp h.inv).mono ?_
  rintro e w' ⟨he, hp', t'⟩
  obtain ⟨h1, h2⟩ := hnext _ _ hp' t'
  have h3 := h.tame.act 9 (a := []) (b := []) (s := []) zb8 zb8 0 0
  exact ⟨he, ⟨h1, syncDir_inv h.inv, h.invr, h3, h.tamer⟩, h2⟩
theorem p_limit (k : Int) (h : Both C w bp br m mr H) (hk : k ≤ 9223372036854775807) :
    Calls Try.prog 14 #[.pointer (some ⟨bp, 0, none⟩), .int .i64 k] w fun e w' => e = .returned (.tuple #[]) ∧ Both C w' bp br (limit m k) mr (grow H w w') ∧ Tch H w w' := by
  obtain ⟨F, hp, hnext⟩ := two_p h.two
  refine (Limit_calls k hp).mono ?_
  rintro e w' ⟨he, hp', t'⟩
  obtain ⟨h1, h2⟩ := hnext _ _ hp' t'
  exact ⟨he, ⟨h1, limit_inv h.inv k hk, h.invr, ⟨h.tame.safe, h.tame.short⟩, h.tamer⟩, h2⟩
theorem p_crash (a b : Int) (h : Both C w bp br m mr H) (hC : C ≤ 10000000) :
    Calls Try.prog 19 #[.pointer (some ⟨bp, 0, none⟩), .int .i64 a, .int .i64 b] w fun e w' => e = .returned (.tuple #[]) ∧ Both C w' bp br (crash m a b) mr (grow H w w') ∧ Tch H w w' := by
  obtain ⟨F, hp, hnext⟩ := two_p h.two
  refine (Crash_calls a b hp h.inv zb6 h.tame.short).mono ?_
  rintro e w' ⟨he, hp', t'⟩
  obtain ⟨h1, h2⟩ := hnext _ _ hp' t'
  have h3 := h.tame.act 13 (a := []) (b := []) (s := []) zb8 zb8 a b
  exact ⟨he, ⟨h1, crash_inv h.inv a b, h.invr, h3, h.tamer⟩, h2⟩
theorem p_read {s : ByteArray} (h : Both C w bp br m mr H) (hs : s.size ≤ 100000000000000) :
    Calls Try.prog 18 #[.pointer (some ⟨bp, 0, none⟩), .string s] w fun e w' => e = .returned (.tuple #[.string (mkB (read m s.data.toList).1), .int .i64 (read m s.data.toList).2]) ∧ Below w.heap.size w w' := by
  obtain ⟨F, hp, hnext⟩ := two_p h.two
  refine (Read_calls s hp hs).mono ?_
  rintro e w' ⟨he, _, t'⟩
  exact ⟨he, t'.below (Nat.le_refl _) (fun _ h => h.elim)⟩
theorem p_list (h : Both C w bp br m mr H) (hC : C ≤ 10000000) :
    Calls Try.prog 20 #[.pointer (some ⟨bp, 0, none⟩)] w fun e w' => ∃ v, e = .returned v ∧ w'.ownsRow w.heap.size 9 1 v m.now.length ((list m).map fun n => Value.string (mkB n)) ∧ Below w.heap.size w w' := by
  obtain ⟨F, hp, hnext⟩ := two_p h.two
  refine (List_calls hp h.inv zb6).mono ?_
  rintro e w' ⟨v, he, ho, _, hb⟩
  exact ⟨v, he, ho, hb⟩
theorem r_create {s : ByteArray} (h : Both C w bp br m mr H) (hC : C ≤ 10000000) (hs : s.size ≤ 100000000000000) :
    Calls Try.prog 9 #[.pointer (some ⟨br, 0, none⟩), .string s] w fun e w' => e = .returned (.int .i64 (create mr s.data.toList).1) ∧ Both (C + 2) w' bp br m (create mr s.data.toList).2 (grow H w w') ∧ Tch H w w' := by
  obtain ⟨G, hr, hnext⟩ := two_r h.two
  refine (CreateR_calls s hs hr h.invr zb6).mono ?_
  rintro e w' ⟨he, hr', t⟩
  obtain ⟨h1, h2⟩ := hnext _ _ hr' t
  exact ⟨he, ⟨h1, h.inv.mono zb6, create_inv h.invr _, h.tame, h.tamer.create (by rw [← Lib.size_eq]; exact hs)⟩, h2⟩
/-- The row's cells, where it is read. -/
def BitRow (W : World) (A : Option Addr) (l : List Bit) : Prop := ∀ i x, l[i]? = some x → ∃ ad : Addr, A = some ad ∧ W.cell? (ad.add (i * 5)) = some (.int .u8 (x.what : Int)) ∧ W.cell? ⟨(ad.add (i * 5)).block, (ad.add (i * 5)).off + 1, none⟩ = some (.int .u8 (x.a : Int)) ∧ W.cell? ⟨(ad.add (i * 5)).block, (ad.add (i * 5)).off + 2, none⟩ = some (.int .u8 (x.b : Int)) ∧ W.cell? ⟨(ad.add (i * 5)).block, (ad.add (i * 5)).off + 3, none⟩ = some (.int .u8 (x.n : Int)) ∧ W.cell? ⟨(ad.add (i * 5)).block, (ad.add (i * 5)).off + 4, none⟩ = some (.int .u8 (x.m : Int))
theorem BitRow.below {W W' : World} {A : Option Addr} {l : List Bit} (h : BitRow W A l) (hb : Below W.heap.size W W') : BitRow W' A l := by
  intro i x hx
  obtain ⟨ad, e, c0, c1, c2, c3, c4⟩ := h i x hx
  exact ⟨ad, e, pw_cell_below hb c0, pw_cell_below hb c1, pw_cell_below hb c2, pw_cell_below hb c3, pw_cell_below hb c4⟩
/-- Whose blocks are none of before. -/
theorem grow_ge {B : Nat} {F : Nat → Prop} {w w' : World} (hF : ∀ j, F j → B ≤ j) (hB : B ≤ w.heap.size) : ∀ j, grow F w w' j → B ≤ j := by
  rintro j (h | ⟨h, _⟩)
  · exact hF j h
  · omega
end
/-- Both plates, all of whose blocks were made since the world w0, of which nothing has turned. -/
def St (C : Nat) (w0 w : World) (bp br : Nat) (m mr : Mach) : Prop := ∃ H, Both C w bp br m mr H ∧ (∀ j, H j → w0.heap.size ≤ j) ∧ Below w0.heap.size w0 w
section
variable {w0 w w' : World} {bp br : Nat} {m mr : Mach} {C : Nat}
theorem St.bel (h : St C w0 w bp br m mr) : Below w0.heap.size w0 w := by
  obtain ⟨_, _, _, hw⟩ := h
  exact hw
theorem St.inv (h : St C w0 w bp br m mr) : Inv C m := by
  obtain ⟨_, hb, _, _⟩ := h
  exact hb.inv
theorem St.tame (h : St C w0 w bp br m mr) : Tame m := by
  obtain ⟨_, hb, _, _⟩ := h
  exact hb.tame
theorem St.mono {C' : Nat} (h : St C w0 w bp br m mr) (hC : C ≤ C') : St C' w0 w bp br m mr := by
  obtain ⟨H, hb, hH, hw⟩ := h
  exact ⟨H, hb.mono hC, hH, hw⟩
theorem St.below (h : St C w0 w bp br m mr) (hb : Below w.heap.size w w') : St C w0 w' bp br m mr := by
  obtain ⟨H, h1, hH, hw⟩ := h
  exact ⟨H, h1.below hb, hH, hw.trans (hb.mono hw.size)⟩
theorem St.new {w1 w2 w3 : World} {room : Int} (r0 : 0 ≤ room) (r1 : room ≤ 4194304) (b0 : Below w.heap.size w w1) (hp : Plate w2 bp (fresh room) (fun i => w1.heap.size ≤ i ∧ i < w2.heap.size)) (t1 : Tch (fun _ => False) w1 w2) (hr : RPlate w3 br (fresh room) (fun i => w2.heap.size ≤ i ∧ i < w3.heap.size)) (b2 : Below w2.heap.size w2 w3) : St 0 w w3 bp br (fresh room) (fresh room) :=
  ⟨_, ⟨two_new hp t1 hr b2, fresh_inv room r0 r1 _, fresh_inv room r0 r1 _, Tame.fresh _, Tame.fresh _⟩, fun j hj => Nat.le_trans b0.size hj.1, b0.trans (((t1.below (Nat.le_refl _) (fun _ h => h.elim)).trans (b2.mono t1.size)).mono b0.size)⟩
theorem St.create {s : ByteArray} (h : St C w0 w bp br m mr) (hC : C ≤ 10000000) (hs : s.size ≤ 100000000000000) :
    Calls Try.prog 8 #[.pointer (some ⟨bp, 0, none⟩), .string s] w fun e w' => e = .returned (.int .i64 (create m s.data.toList).1) ∧ St (C + 2) w0 w' bp br (create m s.data.toList).2 mr := by
  obtain ⟨H, hb, hH, hw⟩ := h
  refine (p_create hb hC hs).mono ?_
  rintro e w' ⟨he, hb', t⟩
  exact ⟨he, _, hb', grow_ge hH hw.size, hw.trans (t.below hw.size hH)⟩
theorem St.write {s t : ByteArray} (h : St C w0 w bp br m mr) (hC : C ≤ 10000000) (hs : s.size ≤ 100000000000000) (ht : t.size ≤ 1000000000) :
    Calls Try.prog 15 #[.pointer (some ⟨bp, 0, none⟩), .string s, .string t] w fun e w' => e = .returned (.int .i64 (write m s.data.toList t.data.toList).1) ∧ St (C) w0 w' bp br (write m s.data.toList t.data.toList).2 mr := by
  obtain ⟨H, hb, hH, hw⟩ := h
  refine (p_write hb hC hs ht).mono ?_
  rintro e w' ⟨he, hb', t'⟩
  exact ⟨he, _, hb', grow_ge hH hw.size, hw.trans (t'.below hw.size hH)⟩
theorem St.sync {s : ByteArray} (h : St C w0 w bp br m mr) (hC : C ≤ 10000000) (hs : s.size ≤ 100000000000000) :
    Calls Try.prog 16 #[.pointer (some ⟨bp, 0, none⟩), .string s] w fun e w' => e = .returned (.int .i64 (sync m s.data.toList).1) ∧ St (C) w0 w' bp br (sync m s.data.toList).2 mr := by
  obtain ⟨H, hb, hH, hw⟩ := h
  refine (p_sync hb hs).mono ?_
  rintro e w' ⟨he, hb', t⟩
  exact ⟨he, _, hb', grow_ge hH hw.size, hw.trans (t.below hw.size hH)⟩
theorem St.syncDir (h : St C w0 w bp br m mr) (hC : C ≤ 10000000) :
    Calls Try.prog 17 #[.pointer (some ⟨bp, 0, none⟩)] w fun e w' => e = .returned (.int .i64 (syncDir m).1) ∧ St (C) w0 w' bp br (syncDir m).2 mr := by
  obtain ⟨H, hb, hH, hw⟩ := h
  refine (p_syncDir hb).mono ?_
  rintro e w' ⟨he, hb', t⟩
  exact ⟨he, _, hb', grow_ge hH hw.size, hw.trans (t.below hw.size hH)⟩
theorem St.limit (k : Int) (h : St C w0 w bp br m mr) (hC : C ≤ 10000000) (hk : k ≤ 9223372036854775807) :
    Calls Try.prog 14 #[.pointer (some ⟨bp, 0, none⟩), .int .i64 k] w fun e w' => e = .returned (.tuple #[]) ∧ St (C) w0 w' bp br (limit m k) (mr) := by
  obtain ⟨H, hb, hH, hw⟩ := h
  refine (p_limit k hb hk).mono ?_
  rintro e w' ⟨he, hb', t⟩
  exact ⟨he, _, hb', grow_ge hH hw.size, hw.trans (t.below hw.size hH)⟩
theorem St.crash (a b : Int) (h : St C w0 w bp br m mr) (hC : C ≤ 10000000) :
    Calls Try.prog 19 #[.pointer (some ⟨bp, 0, none⟩), .int .i64 a, .int .i64 b] w fun e w' => e = .returned (.tuple #[]) ∧ St (C) w0 w' bp br (crash m a b) (mr) := by
  obtain ⟨H, hb, hH, hw⟩ := h
  refine (p_crash a b hb hC).mono ?_
  rintro e w' ⟨he, hb', t⟩
  exact ⟨he, _, hb', grow_ge hH hw.size, hw.trans (t.below hw.size hH)⟩
theorem St.rcreate {s : ByteArray} (h : St C w0 w bp br m mr) (hC : C ≤ 10000000) (hs : s.size ≤ 100000000000000) :
    Calls Try.prog 9 #[.pointer (some ⟨br, 0, none⟩), .string s] w fun e w' => e = .returned (.int .i64 (Pl.create mr s.data.toList).1) ∧ St (C + 2) w0 w' bp br m (Pl.create mr s.data.toList).2 := by
  obtain ⟨H, hb, hH, hw⟩ := h
  refine (r_create hb hC hs).mono ?_
  rintro e w' ⟨he, hb', t⟩
  exact ⟨he, _, hb', grow_ge hH hw.size, hw.trans (t.below hw.size hH)⟩
theorem St.read {s : ByteArray} (h : St C w0 w bp br m mr) (hs : s.size ≤ 100000000000000) :
    Calls Try.prog 18 #[.pointer (some ⟨bp, 0, none⟩), .string s] w fun e w' => e = .returned (.tuple #[.string (mkB (read m s.data.toList).1), .int .i64 (read m s.data.toList).2]) ∧ St C w0 w' bp br m mr ∧ Below w.heap.size w w' := by
  obtain ⟨H, hb, hH, hw⟩ := h
  refine (p_read hb hs).mono ?_
  rintro e w' ⟨he, b⟩
  exact ⟨he, St.below ⟨H, hb, hH, hw⟩ b, b⟩
theorem St.list (h : St C w0 w bp br m mr) (hC : C ≤ 10000000) :
    Calls Try.prog 20 #[.pointer (some ⟨bp, 0, none⟩)] w fun e w' => ∃ v, e = .returned v ∧ w'.ownsRow w.heap.size 9 1 v m.now.length ((list m).map fun n => Value.string (mkB n)) ∧ St C w0 w' bp br m mr ∧ Below w.heap.size w w' := by
  obtain ⟨H, hb, hH, hw⟩ := h
  refine (p_list hb hC).mono ?_
  rintro e w' ⟨v, he, ho, b⟩
  exact ⟨v, he, ho, St.below ⟨H, hb, hH, hw⟩ b, b⟩
theorem St.same (x : Bit) (hx : x.ok) (h : St C w0 w bp br m mr) (hC : C ≤ 10000000) :
    Calls Try.prog 12 #[.pointer (some ⟨bp, 0, none⟩), .pointer (some ⟨br, 0, none⟩), .agg #[.int .i64 (x.what : Int), .string (nameA x.a), .string (nameA x.b), .string (textA x.n), .int .i64 (numA x.n), .int .i64 (numA x.m)]] w fun e w' => ∃ z, e = .returned (.bool z) ∧ St (C + 2) w0 w' bp br (bitM m x) (bitM mr x) := by
  obtain ⟨H, hb, hH, hw⟩ := h
  refine (bit_same x hx hb hC).mono ?_
  rintro e w' ⟨z, he, hb', t⟩
  exact ⟨z, he, _, hb', grow_ge hH hw.size, hw.trans (t.below hw.size hH)⟩
end
def keptB : ByteArray := ⟨#[107, 101, 112, 116]⟩
def keptL : L := [107, 101, 112, 116]
theorem name_ne (i : Nat) : (nameA i).data.toList ≠ keptL := by
  intro h
  have h1 := congrArg List.length h
  rw [← Lib.size_eq, nameA_size] at h1
  exact absurd h1 zb8
theorem text_len (i : Nat) : (textA i).data.toList.length ≤ 6 := by rw [← Lib.size_eq]; exact textA_size i
/-- How it stands ahead of the file's making. -/
structure Ahead (B : Nat) (m : Mach) : Prop where
  away : Away keptL m
  small : Small B m
  room : m.room = 100000
theorem room_write (m : Mach) (a s : L) : (write m a s).2.room = m.room := by
  unfold write
  (repeat' split) <;> rfl
theorem room_act (m : Mach) (k : Nat) (a b s : L) (n mm : Int) : (actM m k a b s n mm).room = m.room := by
  unfold actM
  repeat' split
  · unfold create
    (repeat' split) <;> rfl
  · exact room_write _ _ _
  · unfold sync
    (repeat' split) <;> rfl
  · unfold rename
    (repeat' split) <;> rfl
  · unfold remove
    (repeat' split) <;> rfl
  · unfold syncDir
    split <;> rfl
  · rfl
  · rfl
  · rfl
  · rfl
  · exact room_write _ _ _
theorem Ahead.bit {B : Nat} {m : Mach} (h : Ahead B m) (x : Bit) : Ahead (B + 6) (bitM m x) :=
  ⟨away_act h.away _ (name_ne _) (name_ne _) _ _ _, small_act h.small _ _ _ _ _ _ (text_len _), (room_act _ _ _ _ _ _ _).trans h.room⟩
theorem Ahead.fresh : Ahead 0 (fresh 100000) := ⟨⟨fun p hp => by simp [Pl.fresh] at hp, fun t ht => by simp [Pl.fresh] at ht⟩, fun f hf => by simp [Pl.fresh] at hf, rfl⟩
theorem made_all {C B : Nat} {s : L} {m : Mach} (hi : Inv C m) (ha : Ahead B m) (hC : C ≤ 120) (hB : B ≤ 360) (hs : s.length ≤ 1000) :
    ∃ m1 m2 m3 m4 k, create (limit m (-1)) keptL = (0, m1) ∧ write m1 keptL s = (0, m2) ∧ sync m2 keptL = (0, m3) ∧ syncDir m3 = (0, m4) ∧ Kept keptL k s m4 := by
  have hl : Inv C (limit m (-1)) := limit_inv hi (-1) zb8
  have hmul : (C + 1) * B ≤ 121 * 360 := Nat.mul_le_mul zb6 hB
  obtain ⟨m1, m2, m3, m4, h1, h2, h3, h4, h5, _⟩ := kept_made (s := s) hl ⟨ha.away.safe, ha.away.steps⟩ ha.small (n := keptL) zb8 (by show max (-1 : Int) (-1) = -1; decide) zb6 (by
    show ((C + 1) * B : Nat) + (s.length : Int) ≤ m.room
    rw [ha.room]
    omega)
  exact ⟨m1, m2, m3, m4, _, h1, h2, h3, h4, h5⟩
set_option maxRecDepth 100000 in
set_option maxHeartbeats 8000000 in
theorem keeps_calls (A0 A2 : Option Addr) (c0 c2 : Nat) (l0 l2 : List Bit) (s : ByteArray) (w : World) (r0 : BitRow w A0 l0) (r2 : BitRow w A2 l2) (k0 : ∀ x ∈ l0, x.ok) (k2 : ∀ x ∈ l2, x.ok) (b0 : l0.length ≤ c0) (b2 : l2.length ≤ c2) :
    Calls Try.prog 4 #[.slice A0 l0.length c0, .string s, .slice A2 l2.length c2] w fun e w' => e = .returned (.bool true) ∧ Below w.heap.size w w' := by
  have HA := Lib.hid (fun W => awake_calls W)
  have H0 := Lib.hid (fun W => newW_ok 100000 W zb8 zb8)
  have H1 := Lib.hid (fun W => newR_ok 100000 W zb8 zb8)
  have R0 := Lib.hid r0
  have R2 := Lib.hid r2
  have K0 := Lib.hid k0
  have K2 := Lib.hid k2
  clear r0 r2 k0 k2
  by_cases hs : s.size ≤ 1000
  · have hs' : ¬ ((1000 : Int) < (s.size : Int)) := by omega
    go_enter Try.func4, Try.ntmps4
    go_wp2_with (first
      | (go_at_call 10; refine (HA.out _).mono ?_; rintro e w0 ⟨rfl, hb0⟩; have B0 := Lib.hid hb0; clear hb0)
      | (go_at_call 6; refine (H0.out _).mono ?_; rintro e w1 ⟨bp, rfl, hbp, hp, ht⟩; have P1 := Lib.hid hp; have T1 := Lib.hid ht; clear hbp hp ht)
      | (go_at_call 7; refine (H1.out _).mono ?_; rintro e w2 ⟨br, rfl, hbr, hr, hb⟩; have ST := Lib.hid (St.new zb8 zb8 B0.out P1.out T1.out hr hb); clear hbr hr hb P1 T1)
      | go_in)
    go_loopw [12] (fun v12 wr => ∃ (i : Nat) (m mr : Mach), v12 = Value.int .i64 (i : Int) ∧ i ≤ 60 ∧ St (2 * i) w wr bp br m mr ∧ Ahead (6 * i) m)
      (fun v12 _ => 60 - (intOf v12).toNat)
    case atStart => exact ⟨0, _, _, rfl, Nat.zero_le _, ST.out, Ahead.fresh⟩
    case round =>
      obtain ⟨i, m, mr, rfl, hil, hst, hah⟩ := hrel
      have SI := Lib.hid hst
      have AH := Lib.hid hah
      clear hst hah
      by_cases hgo : i < l0.length ∧ i < 60
      · obtain ⟨hlt, h60⟩ := hgo
        have hd1 : ((i : Int) < (l0.length : Int)) := by omega
        have hd2 : ((i : Int) < 60) := by omega
        obtain ⟨x, hx⟩ : ∃ x, l0[i]? = some x := ⟨_, List.getElem?_eq_getElem hlt⟩
        obtain ⟨ad, rfl, q0, q1, q2, q3, q4⟩ := (R0.out.below SI.out.bel) i x hx
        have hok := K0.out x (List.mem_of_getElem? hx)
        have HOK := Lib.hid hok
        have HACT := Lib.hid (fun W => act_calls x.what x.a x.b x.n x.m hok.1 hok.2.1 hok.2.2.1 hok.2.2.2.1 hok.2.2.2.2 W)
        clear hx hok
        go_wp2_with (first
          | (go_at_call 13; refine (HACT.out _).mono ?_; rintro e w3 ⟨rfl, hb3⟩; have S3 := Lib.hid (SI.out.below hb3); clear hb3)
          | (go_at_call 12; refine (St.same x HOK.out S3.out zb6).mono ?_; rintro e w4 ⟨z, rfl, h4⟩; have S4 := Lib.hid h4; clear h4)
          | go_in)
        go_roundw
        case rel => exact ⟨i + 1, _, _, by push_cast; rfl, by omega, S4.out.mono zb6, AH.out.bit x⟩
        case measure =>
          show 60 - ((i : Int) + 1).toNat < 60 - (i : Int).toNat
          omega
      · obtain ⟨m1, m2, m3, m4, kk, e1, e2, e3, e4, hkept⟩ := made_all (s := s.data.toList) SI.out.inv AH.out zb6 zb6 (by rw [← Lib.size_eq]; exact hs)
        have HK := Lib.hid hkept
        have E1 := Lib.hid (show create (limit m (-1)) keptB.data.toList = (0, m1) from e1)
        have E2 := Lib.hid (show write m1 keptB.data.toList s.data.toList = (0, m2) from e2)
        have E3 := Lib.hid (show sync m2 keptB.data.toList = (0, m3) from e3)
        have E4 := Lib.hid e4
        clear e1 e2 e3 e4 hkept
        have hC : 2 * i + 2 ≤ 10000000 := by omega
        have hC0 : 2 * i ≤ 10000000 := by omega
        have hC4 : 2 * i + 2 + 2 ≤ 200 := by omega
        have hsz1 : s.size ≤ 1000000000 := by omega
        have hz : decide ((i : Int) < (l0.length : Int)) = false ∨ (decide ((i : Int) < (l0.length : Int)) = true ∧ decide ((i : Int) < 60) = false) := by
          by_cases h1 : i < l0.length
          · exact .inr ⟨decide_eq_true zb6, decide_eq_false zb6⟩
          · exact .inl (decide_eq_false zb6)
        have hz' : ¬ ((i : Int) < (l0.length : Int)) ∨ (((i : Int) < (l0.length : Int)) ∧ ¬ ((i : Int) < 60)) := by omega
        clear hgo hz
        rcases hz' with hz1 | ⟨hz1, hz2⟩
        all_goals
          go_wp2_with (first
            | (go_at_call 14; refine (SI.out.limit (-1) hC0 zb8).mono ?_; rintro e w5 ⟨rfl, h5⟩; have S5 := Lib.hid h5; clear h5 SI)
            | (go_at_call 8; refine (S5.out.create (s := keptB) hC0 zb8).mono ?_; rintro e w6 ⟨he, h6⟩; rw [E1.out] at he h6; subst he; have S6 := Lib.hid h6; clear h6 S5)
            | (go_at_call 15; refine (S6.out.write (s := keptB) (t := s) hC zb8 hsz1).mono ?_; rintro e w7 ⟨he, h7⟩; rw [E2.out] at he h7; subst he; have S7 := Lib.hid h7; clear h7 S6)
            | (go_at_call 16; refine (S7.out.sync (s := keptB) hC zb8).mono ?_; rintro e w8 ⟨he, h8⟩; rw [E3.out] at he h8; subst he; have S8 := Lib.hid h8; clear h8 S7)
            | (go_at_call 17; refine (S8.out.syncDir hC).mono ?_; rintro e w9 ⟨he, h9⟩; rw [E4.out] at he h9; subst he; have S9 := Lib.hid h9; clear h9 S8)
            | (go_at_call 9; refine (S9.out.rcreate (s := keptB) hC zb8).mono ?_; rintro e w10 ⟨rfl, h10⟩; have S10 := Lib.hid h10; clear h10 S9)
            | go_in)
          go_loopw [13, 14, 15] (fun v13 _ _ wr => ∃ (j : Nat) (m mr : Mach), v13 = Value.int .i64 (j : Int) ∧ j ≤ 60 ∧ St (200 + 2 * j) w wr bp br m mr ∧ Kept keptL kk s.data.toList m)
            (fun v13 _ _ _ => 60 - (intOf v13).toNat)
          case atStart => exact ⟨0, _, _, rfl, Nat.zero_le _, S10.out.mono zb6, HK.out⟩
          case round =>
            obtain ⟨j, m', mr', rfl, hjl, hst, hkp⟩ := hrel
            have SJ := Lib.hid hst
            have KP := Lib.hid hkp
            clear hst hkp
            by_cases hgo : j < l2.length ∧ j < 60
            · obtain ⟨hlt, h60⟩ := hgo
              have hd1 : ((j : Int) < (l2.length : Int)) := by omega
              have hd2 : ((j : Int) < 60) := by omega
              obtain ⟨x, hx⟩ : ∃ x, l2[j]? = some x := ⟨_, List.getElem?_eq_getElem hlt⟩
              obtain ⟨ad, rfl, q0, q1, q2, q3, q4⟩ := (R2.out.below SJ.out.bel) j x hx
              have hok := K2.out x (List.mem_of_getElem? hx)
              have HOK := Lib.hid hok
              have HACT := Lib.hid (fun W => act_calls x.what x.a x.b x.n x.m hok.1 hok.2.1 hok.2.2.1 hok.2.2.2.1 hok.2.2.2.2 W)
              have hk3 : Kept keptL kk s.data.toList (bitM m' x) := kept_act KP.out (x.what % 16) (name_ne x.a) (name_ne x.b) _ _ _
              have HK3 := Lib.hid hk3
              have HRD := Lib.hid (show read (bitM m' x) keptB.data.toList = (s.data.toList, 0) from kept_read (bit_inv SJ.out.inv x) hk3)
              have hC2 : 200 + 2 * j ≤ 10000000 := by omega
              clear hx hok hk3
              go_wp2_with (first
                | (go_at_call 13; refine (HACT.out _).mono ?_; rintro e w3 ⟨rfl, hb3⟩; have S3 := Lib.hid (SJ.out.below hb3); clear hb3)
                | (go_at_call 12; refine (St.same x HOK.out S3.out hC2).mono ?_; rintro e w4 ⟨z, rfl, h4⟩; have S4 := Lib.hid h4; clear h4)
                | (go_at_call 18; refine (S4.out.read (s := keptB) zb8).mono ?_; rintro e w5 ⟨he, h5, _⟩; rw [HRD.out] at he; simp only [mkB_self] at he; subst he; have S5 := Lib.hid h5; clear h5)
                | go_in)
              go_roundw
              case rel => exact ⟨j + 1, _, _, by push_cast; rfl, by omega, S5.out.mono zb6, HK3.out⟩
              case measure =>
                show 60 - ((j : Int) + 1).toNat < 60 - (j : Int).toNat
                omega
            · have hy' : ¬ ((j : Int) < (l2.length : Int)) ∨ (((j : Int) < (l2.length : Int)) ∧ ¬ ((j : Int) < 60)) := by omega
              have hC2 : 200 + 2 * j ≤ 10000000 := by omega
              have hk3 : Kept keptL kk s.data.toList (crash m' 0 0) := kept_act KP.out 13 (a := []) (b := []) zb8 zb8 [] 0 0
              have HRD := Lib.hid (show read (crash m' 0 0) keptB.data.toList = (s.data.toList, 0) from kept_read (crash_inv SJ.out.inv 0 0) hk3)
              clear hgo hk3
              rcases hy' with hy1 | ⟨hy1, hy2⟩
              all_goals
                go_wp2_with (first
                  | (go_at_call 19; refine (SJ.out.crash 0 0 hC2).mono ?_; rintro e w11 ⟨rfl, h11⟩; have S11 := Lib.hid h11; clear h11)
                  | (go_at_call 18; refine (S11.out.read (s := keptB) zb8).mono ?_; rintro e w12 ⟨he, h12, _⟩; rw [HRD.out] at he; simp only [mkB_self] at he; subst he; have S12 := Lib.hid h12; clear h12)
                  | go_in)
                go_ret
                exact ⟨rfl, S12.out.bel⟩
  · have hs' : ((1000 : Int) < (s.size : Int)) := by omega
    go_enter Try.func4, Try.ntmps4
    go_wp2_with (first
      | (go_at_call 10; refine (HA.out _).mono ?_; rintro e w0 ⟨rfl, hb0⟩; have B0 := Lib.hid hb0; clear hb0)
      | (go_at_call 6; refine (H0.out _).mono ?_; rintro e w1 ⟨bp, rfl, hbp, hp, ht⟩; have B1 := Lib.hid (B0.out.trans ((ht.below (Nat.le_refl _) (fun _ h => h.elim)).mono B0.out.size)); clear hbp hp ht)
      | go_in)
    go_ret
    exact ⟨rfl, B1.out⟩
/-- A row that is none of H's blocks. -/
def Free (H : Nat → Prop) (v : Value) : Prop := ∀ b, v.ownBlock = some b → ¬ H b
section
variable {w w' : World} {H : Nat → Prop} {base e size n : Nat} {v : Value} {xs : List Value}
theorem row_keep (h : w.ownsRow base e size v n xs) (hf : Free H v) (t : Tch H w w') : w'.ownsRow base e size v n xs ∧ Free (grow H w w') v := by
  have hlt : ∀ b, v.ownBlock = some b → b < w.heap.size := fun b hb => by
    obtain ⟨_, e⟩ := row_block h hb
    exact blk_lt e
  refine ⟨own_move h (fun b hb => t.block b (hlt b hb) (hf b hb)), fun b hb hg => ?_⟩
  rcases hg with hg | ⟨hg, _⟩
  · exact hf b hb hg
  · have := hlt b hb
    omega
theorem free_new {bp br : Nat} {m mr : Mach} {C B : Nat} (h : Both C w bp br m mr H) (ho : w'.ownsRow B e size v n xs) (hB : w.heap.size ≤ B) : Free H v := by
  intro b hb hh
  have h1 := own_base ho b hb
  obtain ⟨F, G, _, _, _, _, hH⟩ := h.two
  have := hH b hh
  omega
end
set_option maxRecDepth 100000 in
set_option maxHeartbeats 8000000 in
theorem calm_calls (A0 : Option Addr) (c0 : Nat) (l0 : List Bit) (steps bytes : Int) (w : World) (r0 : BitRow w A0 l0) (k0 : ∀ x ∈ l0, x.ok) (b0 : l0.length ≤ c0) :
    Calls Try.prog 5 #[.slice A0 l0.length c0, .int .i64 steps, .int .i64 bytes] w fun e w' => e = .returned (.bool true) ∧ Below w.heap.size w w' := by
  have HA := Lib.hid (fun W => awake_calls W)
  have H0 := Lib.hid (fun W => newW_ok 10000 W zb8 zb8)
  have H1 := Lib.hid (fun W => newR_ok 10000 W zb8 zb8)
  have R0 := Lib.hid r0
  have K0 := Lib.hid k0
  obtain ⟨i0, hi0, hz⟩ := Option.map_eq_some_iff.1 str_info
  simp only [Prod.mk.injEq] at hz
  obtain ⟨hz0, hz1, hz2⟩ := hz
  clear r0 k0
  go_enter Try.func5, Try.ntmps5
  go_wp2_with (first
    | (go_at_call 10; refine (HA.out _).mono ?_; rintro e w0 ⟨rfl, hb0⟩; have B0 := Lib.hid hb0; clear hb0)
    | (go_at_call 6; refine (H0.out _).mono ?_; rintro e w1 ⟨bp, rfl, hbp, hp, ht⟩; have P1 := Lib.hid hp; have T1 := Lib.hid ht; clear hbp hp ht)
    | (go_at_call 7; refine (H1.out _).mono ?_; rintro e w2 ⟨br, rfl, hbr, hr, hb⟩; have ST := Lib.hid (St.new zb8 zb8 B0.out P1.out T1.out hr hb); clear hbr hr hb P1 T1)
    | go_in)
  go_loopw [12] (fun v12 wr => ∃ (i : Nat) (m mr : Mach), v12 = Value.int .i64 (i : Int) ∧ i ≤ 60 ∧ St (2 * i) w wr bp br m mr)
    (fun v12 _ => 60 - (intOf v12).toNat)
  case atStart => exact ⟨0, _, _, rfl, Nat.zero_le _, ST.out⟩
  case round =>
    obtain ⟨i, m, mr, rfl, hil, hst⟩ := hrel
    have SI := Lib.hid hst
    clear hst
    by_cases hgo : i < l0.length ∧ i < 60
    · obtain ⟨hlt, h60⟩ := hgo
      have hd1 : ((i : Int) < (l0.length : Int)) := by omega
      have hd2 : ((i : Int) < 60) := by omega
      obtain ⟨x, hx⟩ : ∃ x, l0[i]? = some x := ⟨_, List.getElem?_eq_getElem hlt⟩
      obtain ⟨ad, rfl, q0, q1, q2, q3, q4⟩ := (R0.out.below SI.out.bel) i x hx
      have hok := K0.out x (List.mem_of_getElem? hx)
      have HOK := Lib.hid hok
      have HACT := Lib.hid (fun W => act_calls x.what x.a x.b x.n x.m hok.1 hok.2.1 hok.2.2.1 hok.2.2.2.1 hok.2.2.2.2 W)
      have hC2 : 2 * i ≤ 10000000 := by omega
      clear hx hok
      go_wp2_with (first
        | (go_at_call 13; refine (HACT.out _).mono ?_; rintro e w3 ⟨rfl, hb3⟩; have S3 := Lib.hid (SI.out.below hb3); clear hb3)
        | (go_at_call 12; refine (St.same x HOK.out S3.out hC2).mono ?_; rintro e w4 ⟨z, rfl, h4⟩; have S4 := Lib.hid h4; clear h4)
        | go_in)
      go_roundw
      case rel => exact ⟨i + 1, _, _, by push_cast; rfl, by omega, S4.out.mono zb6⟩
      case measure =>
        show 60 - ((i : Int) + 1).toNat < 60 - (i : Int).toNat
        omega
    · have hz' : ¬ ((i : Int) < (l0.length : Int)) ∨ (((i : Int) < (l0.length : Int)) ∧ ¬ ((i : Int) < 60)) := by omega
      have hC0 : 120 ≤ 10000000 := by omega
      have SI2 := Lib.hid (SI.out.mono (C' := 120) zb6)
      clear hgo SI
      obtain ⟨M, hM⟩ : ∃ M, M = limit m (-1) := ⟨_, rfl⟩
      have hMp : M.power = -1 := by rw [hM]; show max (-1 : Int) (-1) = -1; decide
      have HM := Lib.hid hM
      have HMP := Lib.hid hMp
      clear hM hMp
      rcases hz' with gz1 | ⟨gz1, gz2⟩
      all_goals
        go_wp2_with (first
          | (go_at_call 14; refine (SI2.out.limit (-1) hC0 zb8).mono ?_; rintro e w5 ⟨rfl, h5⟩; rw [← HM.out] at h5; have S5 := Lib.hid h5; clear h5 SI2)
          | (go_at_call 20; refine (S5.out.list hC0).mono ?_; rintro e w6 ⟨v6, rfl, ho6, h6, hb6⟩; obtain ⟨A6, c6, rfl⟩ := row_slice ho6; have O6 := Lib.hid ho6; have S6 := Lib.hid h6; have B6 := Lib.hid hb6; clear ho6 h6 hb6)
          | go_in)
        obtain ⟨H5, hb5, hH5, hw5⟩ := S5.out
        have FR := Lib.hid (free_new hb5 O6.out (Nat.le_refl _))
        have BO6 := Lib.hid (hb5.below B6.out)
        have HH5 := Lib.hid hH5
        have INV := Lib.hid hb5.inv
        have TAME := Lib.hid hb5.tame
        have hnl := hb5.inv.now_len
        have BW6 := Lib.hid (hw5.trans (B6.out.mono hw5.size))
        have z5 := hw5.size
        clear hb5 hH5 hw5
        have hlen : (list M).length = M.now.length := by unfold list; rw [List.length_map]
        have HLEN := Lib.hid hlen
        clear hlen
        go_loopw [14, 15, 16, 17] (fun v14 v15 _ _ wr => ∃ (i : Nat) (m mr : Mach) (H : Nat → Prop), v15 = Value.int .i64 (i : Int) ∧ i ≤ M.now.length ∧ Both 120 wr bp br m mr H ∧ (∀ j, H j → w.heap.size ≤ j) ∧ Below w.heap.size w wr ∧ wr.ownsRow w5.heap.size 9 1 (.slice A6 M.now.length c6) M.now.length ((list M).map fun n => Value.string (mkB n)) ∧ Free H (.slice A6 M.now.length c6) ∧ wr.ownsRow w.heap.size 9 1 v14 i (((list M).take i).map fun n => Value.string (mkB (read M n).1)) ∧ Free H v14 ∧ (∀ b, v14.ownBlock = some b → (Value.slice A6 M.now.length c6).ownBlock ≠ some b) ∧ Like M m ∧ (∀ p ∈ M.now.take i, (fileAt m.files p.2).loose = []))
          (fun _ v15 _ _ _ => M.now.length - (intOf v15).toNat)
        case atStart =>
          refine ⟨0, M, _, H5, rfl, Nat.zero_le _, BO6.out, HH5.out, BW6.out, O6.out, FR.out, World.ownsRow_nil _ _ _ _, ?_, ?_, Like.refl M, ?_⟩
          · intro b hb
            cases hb
          · intro b hb
            cases hb
          · intro p hp
            simp at hp
        case round =>
          obtain ⟨i, m', mr', H, rfl, hil, hbo, hH, hbw, hol, hfl, how, hfw, hne, hlike, hloose⟩ := hrel
          obtain ⟨A14, c14, rfl⟩ := row_slice how
          by_cases hlt : i < M.now.length
          · have hdec : ((i : Int) < (M.now.length : Int)) := by omega
            obtain ⟨⟨nm, k⟩, hp⟩ : ∃ p, M.now[i]? = some p := ⟨_, List.getElem?_eq_getElem hlt⟩
            have hmem : (nm, k) ∈ M.now := List.mem_of_getElem? hp
            have hnm : (list M)[i]? = some nm := by unfold list; rw [List.getElem?_map, hp]; rfl
            have hsnoc : (list M).take (i + 1) = (list M).take i ++ [nm] := by rw [List.take_add_one, hnm]; rfl
            have hsnoc2 : M.now.take (i + 1) = M.now.take i ++ [(nm, k)] := by rw [List.take_add_one, hp]; rfl
            obtain ⟨g, hA⟩ := row_at0 hol hlt
            have hx : ((list M).map fun n => Value.string (mkB n))[i]? = some (Value.string (mkB nm)) := by rw [List.getElem?_map, hnm]; rfl
            obtain ⟨m2, hs2, hinv2, hlike2, hlo2⟩ := sync_like hbo.inv (hlike.power.trans HMP.out) (show (nm, k) ∈ m'.now by rw [hlike.now]; exact hmem)
            have hsz : (mkB nm).size ≤ 100000000000000 := by rw [mkB_size]; exact TAME.out.now _ hmem
            have hrd : read m2 nm = read M nm := (hlike.trans hlike2).read nm
            have hkeep : ∀ w7, Tch H wr w7 → w7.cell? ⟨g, i, none⟩ = some (Value.string (mkB nm)) := by
              intro w7 t7
              have h7 := (row_keep hol hfl t7).1
              rw [hA] at h7
              exact (h7.cellAt i zb6).trans hx
            have cA := hkeep wr (Tch.refl _ _)
            have HX := Lib.hid hkeep
            have BOI := Lib.hid hbo
            have HS2 := Lib.hid hs2
            have HRD := Lib.hid hrd
            have HSZ := Lib.hid hsz
            have HOW := Lib.hid how
            have HFW := Lib.hid hfw
            have HOL := Lib.hid hol
            have HFL := Lib.hid hfl
            have HNE := Lib.hid hne
            have HH := Lib.hid hH
            have HBW := Lib.hid hbw
            have HL2 := Lib.hid (hlike.trans hlike2)
            have HL0 := Lib.hid hlike2
            have HLO := Lib.hid hloose
            have HLO2 := Lib.hid hlo2
            have HSN := Lib.hid hsnoc
            have HSN2 := Lib.hid hsnoc2
            have HAA := Lib.hid hA
            clear hkeep hbo hs2 hrd hsz how hfw hol hfl hne hH hbw hlike hlike2 hloose hlo2 hinv2 hsnoc hsnoc2 hx hnm hp hmem
            rw [hA]
            clear hA
            go_wp2_with (first
              | (go_at_call 16; refine (p_sync (s := mkB nm) BOI.out HSZ.out).mono ?_; rintro e w7 ⟨he, h7, t7⟩; rw [mkB_data, HS2.out] at he h7; subst he; have cA7 := HX.out w7 t7; have S7 := Lib.hid h7; have T7 := Lib.hid t7; clear h7 t7)
              | (go_at_call 18; refine (p_read (s := mkB nm) S7.out HSZ.out).mono ?_; rintro e w8 ⟨he, hb8⟩; rw [mkB_data, HRD.out] at he; subst he; have B8 := Lib.hid hb8; have z8 := hb8.size; have z7 := T7.out.size; have zw := HBW.out.size; have HOW8 := Lib.hid (own_below (row_keep HOW.out HFW.out T7.out).1 hb8); clear hb8)
              | (at_builtin; refine wpList_append_own_at _ rfl _ _ 48 rfl w.heap.size 9 i0 _ 1 16 Try.underlying48 hi0 hz0 hz1 hz2 rfl zb8 _ i _ rfl (HOW8.out.alloc _) ⟨w8.heap.size, 0, none⟩ 1 1 [.string (mkB (read M nm).1)] rfl (by simp) (one_new _ _ _) (by simp [Value.oneCell']) (by unfold maxLen; omega) zb6 (by simp; omega) ?_; intro v9 w9 hown9 hgr9 hnil9 hloc9; obtain ⟨A9, c9, rfl⟩ := row_slice hown9; have HO9 := Lib.hid hown9; have HG9 := Lib.hid hgr9; have HLC := Lib.hid hloc9; clear hown9 hgr9 hnil9 hloc9)
              | go_in)
            go_roundw
            case rel =>
              have rl7 := row_keep HOL.out HFL.out T7.out
              have rw7 := row_keep HOW.out HFW.out T7.out
              have t89 : Tch (fun j => (Value.slice A14 i c14).ownBlock = some j) w8 w9 := (Tch.alloc _ w8 _).andGrown HG9.out (fun k hk => .inl hk)
              have hltl : ∀ b, (Value.slice A6 M.now.length c6).ownBlock = some b → b < w8.heap.size := fun b hb => by
                obtain ⟨_, e⟩ := row_block rl7.1 hb
                have := blk_lt e
                omega
              have hltg : ∀ j, grow H wr w7 j → j < w7.heap.size := by
                obtain ⟨F, G, _, _, _, _, hH7⟩ := S7.out.two
                exact hH7
              refine ⟨i + 1, m2, mr', grow H wr w7, by push_cast; rfl, by omega, (S7.out.below B8.out).move t89 (fun j hj hx => rw7.2 j hx hj), grow_ge HH.out zw, ((HBW.out.trans (T7.out.below zw HH.out)).trans (B8.out.mono zb6)).trans (t89.below zb6 (fun j hj => own_base HOW.out j hj)), ?_, ?_, ?_, ?_, ?_, HL2.out, ?_⟩
              · rw [← HAA.out]
                exact (row_keep (own_below rl7.1 B8.out) (fun b hb hx => HNE.out b hx hb) t89).1
              · rw [← HAA.out]
                exact rl7.2
              · rw [HSN.out, List.map_append]
                exact HO9.out
              · intro b hb hg
                rcases HLC.out with e | e
                · exact rw7.2 b (e ▸ hb) hg
                · rw [e] at hb
                  have h1 := Option.some.inj hb
                  have h2 := hltg b hg
                  simp at h1
                  omega
              · intro b hb
                rw [← HAA.out]
                rcases HLC.out with e | e
                · exact HNE.out b (e ▸ hb)
                · intro hb2
                  rw [e] at hb
                  have h1 := Option.some.inj hb
                  have h2 := hltl b hb2
                  simp at h1
                  omega
              · intro p hp
                rw [HSN2.out] at hp
                rcases List.mem_append.1 hp with hp | hp
                · exact HL0.out.loose _ (HLO.out p hp)
                · rw [List.mem_singleton.1 hp]
                  exact HLO2.out
            case measure =>
              show M.now.length - ((i : Int) + 1).toNat < M.now.length - (i : Int).toNat
              omega
          · have hdec : ¬ ((i : Int) < (M.now.length : Int)) := by omega
            have hi' : i = M.now.length := by omega
            subst hi'
            obtain ⟨m4, e4, hl4, hr4⟩ := calm hbo.inv (hlike.power.trans HMP.out) (fun p hp => hloose p (by rw [hlike.now] at hp; rw [List.take_length]; exact hp)) steps bytes
            have hlist : list (crash m4 steps bytes) = list M := hl4.trans hlike.list
            have hnow : (crash m4 steps bytes).now.length = M.now.length := by
              rw [← HLEN.out, ← hlist]
              unfold list
              rw [List.length_map]
            have hread : ∀ n ∈ list M, read (crash m4 steps bytes) n = ((read M n).1, 0) := fun n hn => by
              rw [hr4 n (by rw [hlike.list]; exact hn), hlike.read]
            have hfull : (list M).take M.now.length = list M := List.take_of_length_le (by rw [HLEN.out]; exact Nat.le_refl _)
            rw [hfull] at how
            have BOI := Lib.hid hbo
            have E4 := Lib.hid e4
            have HLS := Lib.hid hlist
            have HNW := Lib.hid hnow
            have HRD := Lib.hid hread
            have HOW := Lib.hid how
            have HFW := Lib.hid hfw
            have HOL := Lib.hid hol
            have HFL := Lib.hid hfl
            have HH := Lib.hid hH
            have HBW := Lib.hid hbw
            have hsame := fun (W : World) (b1 b2 : Nat) (v1 v2 : Value) (h1 : W.ownsRow b1 9 1 v1 M.now.length ((list M).map fun n => Value.string (mkB n))) (h2 : W.ownsRow b2 9 1 v2 M.now.length ((list M).map fun n => Value.string (mkB n))) => same_texts (list M) (by rw [HLEN.out]; omega) (by rw [HLEN.out]; exact h1) (by rw [HLEN.out]; exact h2)
            have HSM := Lib.hid hsame
            clear hbo e4 hlist hnow hread hl4 hr4 how hfw hol hfl hH hbw hlike hloose hne hfull hsame
            go_wp2_with (first
              | (go_at_call 17; refine (p_syncDir BOI.out).mono ?_; rintro e w10 ⟨he, h10, t10⟩; rw [E4.out] at he h10; subst he; have S10 := Lib.hid h10; have L10 := Lib.hid (row_keep HOL.out HFL.out t10); have W10 := Lib.hid (row_keep HOW.out HFW.out t10); have G10 := Lib.hid (grow_ge HH.out HBW.out.size (w' := w10)); have D10 := Lib.hid (HBW.out.trans (t10.below HBW.out.size HH.out)); clear h10 t10)
              | (go_at_call 19; refine (p_crash steps bytes S10.out hC0).mono ?_; rintro e w11 ⟨rfl, h11, t11⟩; have S11 := Lib.hid h11; have L11 := Lib.hid (row_keep L10.out.1 L10.out.2 t11); have W11 := Lib.hid (row_keep W10.out.1 W10.out.2 t11); have D11 := Lib.hid (D10.out.trans (t11.below D10.out.size G10.out)); clear h11 t11)
              | (go_at_call 20; refine (p_list S11.out hC0).mono ?_; rintro e w12 ⟨v12, rfl, ho12, hb12⟩; rw [HLS.out, HNW.out] at ho12; obtain ⟨A12, c12, rfl⟩ := row_slice ho12; have O12 := Lib.hid ho12; have B12 := Lib.hid hb12; clear ho12 hb12)
              | (go_at_call 21; refine (HSM.out _ _ _ _ _ (own_below L11.out.1 B12.out) O12.out).mono ?_; rintro e w13 ⟨rfl, hb13⟩; have B13 := Lib.hid hb13; clear hb13)
              | go_in)
            have OW13 := Lib.hid (own_below (own_below W11.out.1 B12.out) B13.out)
            have OL13 := Lib.hid (own_below O12.out B13.out)
            have BO13 := Lib.hid ((S11.out.below B12.out).below B13.out)
            have D13 := Lib.hid ((D11.out.trans (B12.out.mono D11.out.size)).trans (B13.out.mono (Nat.le_trans D11.out.size B12.out.size)))
            go_loopw [19, 20, 21] (fun v19 _ _ wr => ∃ (i : Nat), v19 = Value.int .i64 (i : Int) ∧ i ≤ M.now.length ∧ Below w13.heap.size w13 wr)
              (fun v19 _ _ _ => M.now.length - (intOf v19).toNat)
            case atStart => exact ⟨0, rfl, Nat.zero_le _, Below.refl _ _⟩
            case round =>
              obtain ⟨i, rfl, hil, hbr⟩ := hrel
              by_cases hlt : i < M.now.length
              · have hdec : ((i : Int) < (M.now.length : Int)) := by omega
                obtain ⟨nm, hnm⟩ : ∃ nm, (list M)[i]? = some nm := ⟨_, List.getElem?_eq_getElem (by rw [HLEN.out]; exact hlt)⟩
                have hmem := List.mem_of_getElem? hnm
                have hrow := own_below OL13.out hbr
                obtain ⟨g, hA⟩ := row_at0 hrow hlt
                have hwas := own_below OW13.out hbr
                obtain ⟨g2, hA2⟩ := row_at0 hwas hlt
                have hx : ((list M).map fun n => Value.string (mkB n))[i]? = some (Value.string (mkB nm)) := by rw [List.getElem?_map, hnm]; rfl
                have hy : ((list M).map fun n => Value.string (mkB (read M n).1))[i]? = some (Value.string (mkB (read M nm).1)) := by rw [List.getElem?_map, hnm]; rfl
                have hsz : (mkB nm).size ≤ 100000000000000 := by
                  obtain ⟨p, hpm, rfl⟩ := List.mem_map.1 hmem
                  rw [mkB_size]
                  exact TAME.out.now p hpm
                rw [hA] at hrow
                have cA := (hrow.cellAt i zb6).trans hx
                have hwk : ∀ w14, Below wr.heap.size wr w14 → w14.cell? ⟨g2, i, none⟩ = some (Value.string (mkB (read M nm).1)) := fun w14 b14 => by
                  have h := own_below hwas b14
                  rw [hA2] at h
                  exact (h.cellAt i zb6).trans hy
                have HWK := Lib.hid hwk
                have HRN := Lib.hid (HRD.out nm hmem)
                have HSZ := Lib.hid hsz
                have BOR := Lib.hid (BO13.out.below hbr)
                have HBR := Lib.hid hbr
                clear hnm hmem hrow hwas hx hy hsz hwk hbr
                subst hA hA2
                go_wp2_with (first
                  | (go_at_call 18; refine (p_read (s := mkB nm) BOR.out HSZ.out).mono ?_; rintro e w14 ⟨he, hb14⟩; rw [mkB_data, HRN.out] at he; subst he; have B14 := Lib.hid hb14; have cW := HWK.out w14 hb14; clear hb14)
                  | go_in)
                go_roundw
                case rel => exact ⟨i + 1, by push_cast; rfl, by omega, HBR.out.trans (B14.out.mono HBR.out.size)⟩
                case measure =>
                  show M.now.length - ((i : Int) + 1).toNat < M.now.length - (i : Int).toNat
                  omega
              · have hdec : ¬ ((i : Int) < (M.now.length : Int)) := by omega
                have HBR := Lib.hid hbr
                clear hbr
                go_wp2
                go_ret
                exact ⟨rfl, D13.out.trans (HBR.out.mono D13.out.size)⟩
end Go.Proofs.Ytblmjnknagpacaa.Pl
/- PlTe -/
namespace Go.Proofs.Ytblmjnknagpacaa.Pl
open Go Go.RowKit Go.Maps Go.Proofs.YtblmjnknagpacaaW.PrintWords Go.ChangeShapes Go.WideShapes Go.Deep
set_option linter.unusedVariables false
set_option linter.unusedSimpArgs false
theorem u8_nat {n : Int} (h : (Lit.int .u8 n).wf = true) : ∃ k : Nat, k < 256 ∧ n = (k : Int) := by
  have h1 : IntKind.u8.min ≤ n ∧ n ≤ IntKind.u8.max := by simpa [Lit.wf] using h
  have m1 : IntKind.u8.min = 0 := by decide
  have m2 : IntKind.u8.max = 255 := by decide
  rw [m1, m2] at h1
  exact ⟨n.toNat, by omega, by omega⟩
set_option maxRecDepth 100000 in
theorem bits_open {H : Type} {enc : TypeId × Value → H} {W : World} {v : Value} {d : DataW H} {p : List MemPlace} (h : DataW.Trod enc Try.prog W 0 (fun _ => true) true 34 v d p) (hv : ∃ a len cap, v = .slice a len cap) :
    ∃ A c l, v = .slice A l.length c ∧ l.length ≤ c ∧ BitRow W A l ∧ ∀ x ∈ l, Bit.ok x := by
  obtain ⟨a, len, cap, rfl⟩ := hv
  obtain ⟨fuel, hf⟩ := h
  rcases open_slice Try.underlying34 hf with ⟨hcs, _⟩ | ⟨a', len', cap', m, n, D, Pl, hcs, _, hl, hm, hmm, hx, hi⟩
  · simp [Value.cells] at hcs
    obtain ⟨rfl, rfl, rfl⟩ := hcs
    exact ⟨none, 0, [], rfl, Nat.le_refl _, fun i x hx => by simp at hx, fun x hx => by simp at hx⟩
  · simp [Value.cells] at hcs
    obtain ⟨rfl, rfl, rfl⟩ := hcs
    have hlm : len ≤ m := by rw [hmm]; split <;> omega
    have hc5 : Try.prog.cellsOf 40 = 5 := by kernel_rfl
    have hc1 : Try.prog.cellsOf 5 = 1 := by kernel_rfl
    have key : ∀ i, ∃ x : Bit, i < len → x.ok ∧ ∀ j u, x.cells[j]? = some u → W.cell? (a'.add (i * 5 + j)) = some u := by
      intro i
      by_cases hil : i < len
      · obtain ⟨cs', h1, h2⟩ := hi i zb6
        rw [hc5] at h1
        obtain ⟨_, hlen, hcell⟩ := World.cells?_some h1
        obtain ⟨xs, k, hk, hxy, _, hxl, hfld⟩ := DataW.trod_struct Try.underlying40 h2
        match xs, hxl, cs', hlen with
        | [y0, y1, y2, y3, y4], _, [v0, v1, v2, v3, v4], _ =>
          have g0 := hfld 0 _ rfl
          have g1 := hfld 1 _ rfl
          have g2 := hfld 2 _ rfl
          have g3 := hfld 3 _ rfl
          have g4 := hfld 4 _ rfl
          simp [hc1] at g0 g1 g2 g3 g4
          obtain ⟨n0, e0, _, w0⟩ := DataW.trod_int Try.underlying5 g0
          obtain ⟨n1, e1, _, w1⟩ := DataW.trod_int Try.underlying5 g1
          obtain ⟨n2, e2, _, w2⟩ := DataW.trod_int Try.underlying5 g2
          obtain ⟨n3, e3, _, w3⟩ := DataW.trod_int Try.underlying5 g3
          obtain ⟨n4, e4, _, w4⟩ := DataW.trod_int Try.underlying5 g4
          obtain ⟨k0, l0, rfl⟩ := u8_nat w0
          obtain ⟨k1, l1, rfl⟩ := u8_nat w1
          obtain ⟨k2, l2, rfl⟩ := u8_nat w2
          obtain ⟨k3, l3, rfl⟩ := u8_nat w3
          obtain ⟨k4, l4, rfl⟩ := u8_nat w4
          have q0 := hcell 0 zb6
          have q1 := hcell 1 zb6
          have q2 := hcell 2 zb6
          have q3 := hcell 3 zb6
          have q4 := hcell 4 zb6
          rw [Deep.add_add] at q0 q1 q2 q3 q4
          simp at e0 e1 e2 e3 e4
          refine ⟨⟨k0, k1, k2, k3, k4⟩, fun _ => ⟨⟨l0, l1, l2, l3, l4⟩, fun j u hu => ?_⟩⟩
          have hj : j < 5 := (List.getElem?_eq_some_iff.1 hu).1
          have : j = 0 ∨ j = 1 ∨ j = 2 ∨ j = 3 ∨ j = 4 := by omega
          rcases this with rfl | rfl | rfl | rfl | rfl
          · obtain rfl := Option.some.inj hu
            rw [← e0]; simpa using q0
          · obtain rfl := Option.some.inj hu
            rw [← e1]; simpa using q1
          · obtain rfl := Option.some.inj hu
            rw [← e2]; simpa using q2
          · obtain rfl := Option.some.inj hu
            rw [← e3]; simpa using q3
          · obtain rfl := Option.some.inj hu
            rw [← e4]; simpa using q4
      · exact ⟨⟨0, 0, 0, 0, 0⟩, fun h => absurd h hil⟩
    obtain ⟨f, hf'⟩ := Classical.axiomOfChoice key
    have hlen : ((List.range len).map f).length = len := by simp
    have hat : ∀ i x, ((List.range len).map f)[i]? = some x → i < len ∧ x = f i := by
      intro i x hx
      rw [List.getElem?_map] at hx
      obtain ⟨j, hj, rfl⟩ := Option.map_eq_some_iff.1 hx
      have hjl : i < len := by
        have := (List.getElem?_eq_some_iff.1 hj).1
        simpa using this
      rw [List.getElem?_range hjl] at hj
      exact ⟨hjl, by rw [Option.some.inj hj]⟩
    refine ⟨some a', cap, (List.range len).map f, by simp, by simpa using hl, fun i x hx => ?_, fun x hx => ?_⟩
    · obtain ⟨hil, rfl⟩ := hat i x hx
      have hc := (hf' i hil).2
      refine ⟨a', rfl, hc 0 _ rfl, ?_, ?_, ?_, ?_⟩
      · rw [← add_field _ _ 1 zb6]; exact hc 1 _ rfl
      · rw [← add_field _ _ 2 zb6]; exact hc 2 _ rfl
      · rw [← add_field _ _ 3 zb6]; exact hc 3 _ rfl
      · rw [← add_field _ _ 4 zb6]; exact hc 4 _ rfl
    · obtain ⟨i, hi2⟩ := List.getElem?_of_mem hx
      obtain ⟨hil, rfl⟩ := hat i x hi2
      exact (hf' i hil).1
end Go.Proofs.Ytblmjnknagpacaa.Pl
