/- Texts of this seat, joined: lemmas and walks that its statements' proofs use. -/
import Derived.Test.YtfpbpakgajddnaaGreatDoorK0
import Derived.Laws.RangeAny
import Derived.Lib.Hide
import Derived.Test.YtfpbpakgajddnaaGreatDoorK1
import Derived.Maps.AppendAt
import Derived.Lib.AppendStr
import Derived.Lib.UnsafeStr
import Derived.Deep.RegionWith
import Derived.Maps.RangeWalk
import Derived.Shelf.SlIter.Nil
import Derived.Shelf.SortM.Plain
import Derived.Shelf.SortM.SortNone
import Derived.Ground.GgzProg
import Derived.Ground.SlgmProg
import Derived.Shelf.SlMaps.Clone
import Derived.Ground.SlmcProg
import Derived.Test.YtfpbpakgajddnaaGreatDoorProg
import Derived.Laws.BytesArg
import Derived.LaidEql
import Derived.MapKept
import Derived.Maps.RangeRun
import Derived.BigRegion
/- PlN -/
namespace Go.Proofs.YtfpbpakgajddnaaGreatDoor.Pl
open Go Go.RowKit Go.Maps Go.Proofs.YtfpbpakgajddnaaGreatDoorW.PrintWords Go.Proofs.YtfpbpakgajddnaaGreatDoorW.PrintLast Go.Proofs.YtfpbpakgajddnaaGreatDoorW.PrintMore
set_option linter.unusedVariables false
set_option linter.unusedSimpArgs false
theorem bt_getD (s : ByteArray) (k : Nat) (h : k < s.size) : ((s.data.toList.getD k 0).toNat : Int) = bt s k := by
 unfold bt
 have h2 : k < s.data.size := h
 simp [h, List.getD_eq_getElem?_getD]
 rfl
theorem ret_bool {a b : Bool} (h : a = b) : Ending.returned (.bool a) = .returned (.bool b) := by rw [h]
/-- Is a rune none of a name's? -/
def oddP (x : Nat) : Bool := !(decide (48 ≤ x) && decide (x ≤ 57) || decide (97 ≤ x) && decide (x ≤ 122) || x == 46 || x == 45)
theorem odd_pred (w : World) : PredAt Tryz.prog 73 #[] encR oddP w := fun W x _ => by
 unfold FnGives
 have z : ∀ (q : Bool), oddP x = q → Calls Tryz.prog 73 #[.int .i32 (x : Int)] W fun e w' => e = .returned (.bool q) ∧ ∃ m, w' = W.drewN m := by
  intro q hq
  by_cases h1 : (48 : Int) ≤ x <;> by_cases h2 : (x : Int) ≤ 57 <;> by_cases h3 : (97 : Int) ≤ x <;> by_cases h4 : (x : Int) ≤ 122 <;> by_cases h5 : (x : Int) = 46 <;> by_cases h6 : (x : Int) = 45
  all_goals first | (exfalso; omega) | skip
  all_goals
   have e1 : oddP x = !(decide ((48 : Int) ≤ x) && decide ((x : Int) ≤ 57) || decide ((97 : Int) ≤ x) && decide ((x : Int) ≤ 122) || ((x : Int) == 46) || ((x : Int) == 45)) := by
    unfold oddP
    congr 1
    rw [show decide (48 ≤ x) = decide ((48 : Int) ≤ x) from by congr 1; exact propext (by omega), show decide (x ≤ 57) = decide ((x : Int) ≤ 57) from by congr 1; exact propext (by omega), show decide (97 ≤ x) = decide ((97 : Int) ≤ x) from by congr 1; exact propext (by omega), show decide (x ≤ 122) = decide ((x : Int) ≤ 122) from by congr 1; exact propext (by omega), show (x == 46) = ((x : Int) == 46) from by rw [Bool.eq_iff_iff]; simp; omega, show (x == 45) = ((x : Int) == 45) from by rw [Bool.eq_iff_iff]; simp; omega]
   have e2 := Lib.hid (e1.symm.trans hq)
   clear e1 hq
   go_enter Tryz.func73, Tryz.ntmps73
   go_wp2
   go_ret
   refine ⟨ret_bool ?_, 0, rfl⟩
   rw [← e2.out]
   first | (simp [h1, h2, h3, h4, h5, h6]; done) | (rw [Bool.eq_iff_iff]; simp; omega)
 exact z _ rfl
def plate_may.f (a0 : ByteArray) : Option Bool := some (if a0.size = 0 then false else if 32 < a0.size then false else !(decide (0 ≤ Lib.idxFunc oddP true a0)))
theorem plate_may.calls (a0 : ByteArray) (r : Bool) (w : World) (h : plate_may.f a0 = some r) :
  Calls Tryz.prog 35 #[.string a0] w fun e w' => e = .returned (.bool r) ∧ Below w.heap.size w w' := by
 obtain rfl := Option.some.inj h
 clear h
 have hC := Tryz.strings_ContainsFunc 73 #[] (enters_of Tryz.func73 (by kernel_rfl) rfl) oddP a0 w (odd_pred w)
 have HC := Lib.hid hC
 clear hC
 by_cases h0 : a0.size = 0
 ·obtain rfl : a0 = ByteArray.empty := ByteArray.size_eq_zero_iff.1 h0
  rw [if_pos h0]
  clear HC
  go_enter Tryz.func35, Tryz.ntmps35
  go_wp2
  go_ret
  exact ⟨rfl, Below.refl _ _⟩
 ·rw [if_neg h0]
  have hne : a0.toList ≠ [] := by
   intro h
   apply h0
   have h2 := congrArg List.length h
   rw [ByteArray.toList_eq, data_length] at h2
   simpa using h2
  have hb0 : (a0.toList == []) = false := by simpa using hne
  have hb1 : (a0.toList != []) = true := by simpa using hne
  by_cases h1 : 32 < a0.size
  ·rw [if_pos h1]
   have h1' : ¬ ((a0.size : Int) ≤ 32) := by omega
   have h1b : decide ((a0.size : Int) ≤ 32) = false := decide_eq_false h1'
   have h1c : decide (a0.size ≤ 32) = false := decide_eq_false (by omega)
   clear HC h0
   go_enter Tryz.func35, Tryz.ntmps35
   go_wp2
   go_ret
   exact ⟨rfl, Below.refl _ _⟩
  ·rw [if_neg h1]
   have h1' : (a0.size : Int) ≤ 32 := by omega
   have h1b : decide ((a0.size : Int) ≤ 32) = true := decide_eq_true h1'
   have h1c : decide (a0.size ≤ 32) = true := decide_eq_true (by omega)
   clear h0
   generalize decide (0 ≤ Lib.idxFunc oddP true a0) = q at *
   go_enter Tryz.func35, Tryz.ntmps35
   go_wp2_with (go_at_call 74; refine HC.out.mono ?_; rintro e w' ⟨rfl, hb⟩)
   go_ret
   exact ⟨rfl, hb⟩
theorem drop_bt (s : ByteArray) (i : Nat) (h : i < s.size) : ∃ b : UInt8, s.data.toList.drop i = b :: s.data.toList.drop (i + 1) ∧ bt s i = b.toNat ∧ s[i]'h = b := by
 have h' : i < s.data.toList.length := by rw [← Lib.size_eq]; exact h
 refine ⟨s.data.toList[i], List.drop_eq_getElem_cons h', ?_, ?_⟩
 ·rw [← bt_getD s i h, List.getD_eq_getElem?_getD, List.getElem?_eq_getElem h']
  rfl
 ·rw [Array.getElem_toList]
  rfl
theorem odd_all : ∀ a : Fin 256, oddP (UInt8.ofNat a.val).toNat = !nameB (UInt8.ofNat a.val) := by decide +kernel
theorem odd_ch (b : UInt8) : oddP b.toNat = !nameB b := by
 have := odd_all ⟨b.toNat, b.toNat_lt⟩
 simpa using this
theorem odd_high (x : Nat) (h : 128 ≤ x) : oddP x = true := by
 unfold oddP
 simp
 omega
theorem ch_low (b : UInt8) (h : nameB b = true) : b.toNat < 128 := by
 rcases Nat.lt_or_ge b.toNat 128 with h1 | h1
 ·exact h1
 ·have := odd_high _ h1
  rw [odd_ch, h] at this
  simp at this
theorem idx_all (s : ByteArray) : ∀ (f pos : Nat), s.size - pos ≤ f → (Lib.idxFuncFrom oddP true s f pos = -1 ↔ (s.data.toList.drop pos).all nameB = true)
 | f, pos, hf => by
  by_cases hp : pos < s.size
  ·obtain ⟨b, e1, e2, e3⟩ := drop_bt s pos hp
   cases f with
   | zero => omega
   | succ f =>
    unfold Lib.idxFuncFrom
    rw [if_pos hp, e1, List.all_cons]
    by_cases ha : b.toNat < 128
    ·have hd := decode_ascii s pos hp (by rw [e3]; exact ha)
     rw [e3] at hd
     rw [hd, odd_ch]
     cases hc : nameB b with
     | true =>
      rw [if_neg (by decide)]
      rw [idx_all s f (pos + 1) (by omega)]
      simp
     | false =>
      rw [if_pos (by decide)]
      simp
    ·have hd := decode_high s pos hp (by rw [e3]; omega)
     rw [if_pos (odd_high _ hd.1)]
     have : nameB b = false := by
      cases hc : nameB b with
      | true => exact absurd (ch_low b hc) ha
      | false => rfl
     rw [this]
     simp
  ·rw [Lib.idxFuncFrom_end _ _ _ _ _ hp, List.drop_eq_nil_of_le (by rw [← Lib.size_eq]; omega)]
   simp
theorem name_eq (a : ByteArray) : plate_may.f a = some (nameOk a.data.toList) := by
 have hl : a.data.toList.length = a.size := (Lib.size_eq a).symm
 unfold plate_may.f nameOk
 by_cases h0 : a.size = 0
 ·have : a.data.toList = [] := List.eq_nil_of_length_eq_zero (by omega)
  rw [if_pos h0, this]
  rfl
 have he : a.data.toList.isEmpty = false := by
  cases h : a.data.toList with
  | nil => rw [h] at hl; simp at hl; omega
  | cons x r => rfl
 by_cases h1 : 32 < a.size
 ·rw [if_neg h0, if_pos h1, he, decide_eq_false (show ¬ a.data.toList.length ≤ 32 by omega)]
  rfl
 rw [if_neg h0, if_neg h1, he, decide_eq_true (show a.data.toList.length ≤ 32 by omega)]
 have key := idx_all a a.size 0 (by omega)
 rw [List.drop_zero] at key
 have hr := Lib.idxFunc_range oddP true a
 unfold Lib.idxFunc at hr ⊢
 have : (!decide (0 ≤ Lib.idxFuncFrom oddP true a a.size 0)) = a.data.toList.all nameB := by
  rw [Bool.eq_iff_iff, ← key]
  simp
  omega
 rw [this]
 rfl
theorem may_calls (s : ByteArray) (w : World) : Calls Tryz.prog 35 #[.string s] w fun e w' => e = .returned (.bool (nameOk s.data.toList)) ∧ Below w.heap.size w w' := plate_may.calls s _ w (name_eq s)
end Go.Proofs.YtfpbpakgajddnaaGreatDoor.Pl
/- PlS -/
namespace Go.Proofs.YtfpbpakgajddnaaGreatDoor.Pl
open Go Go.RowKit Go.Maps Go.Proofs.YtfpbpakgajddnaaGreatDoorW.PrintWords
set_option linter.unusedVariables false
set_option linter.unusedSimpArgs false
def mkB (l : L) : ByteArray := ⟨l.toArray⟩
theorem mkB_data (l : L) : (mkB l).data.toList = l := by simp [mkB]
theorem mkB_self (s : ByteArray) : mkB s.data.toList = s := by cases s; simp [mkB]
theorem mkB_size (l : L) : (mkB l).size = l.length := by rw [Lib.size_eq, mkB_data]
def ptrO (K : Nat → Addr) : Option Nat → Value
  | some k => .pointer (some (K k))
  | none => .pointer none
def stepC (K : Nat → Addr) (s : Stp) : List Value := [.string (mkB s.1), ptrO K s.2]
def stepsC (K : Nat → Addr) (l : List Stp) : List Value := l.flatMap (stepC K)
theorem stepsC_snoc (K : Nat → Addr) (l m : List Stp) : stepsC K (l ++ m) = stepsC K l ++ stepsC K m := by unfold stepsC; rw [List.flatMap_append]
/-- One step, done. -/
theorem do_any (b : Nat) (K : Nat → Addr) (d : Dir) (s : Stp) (w : World) (hd : OwnDir w b K d) (hs : s.1.length ≤ 100000000000000) (hn : d.length < 1000000000) :
  Calls Tryz.prog 68 #[.map (some b), .agg #[.string (mkB s.1), ptrO K s.2]] w fun e w' => e = .returned (.tuple #[]) ∧ OwnDir w' b K (put d s) ∧ Tch (fun i => i = b) w w' := by
 obtain ⟨n, o⟩ := s
 have hs' : (mkB n).size ≤ maxLen := by rw [mkB_size]; unfold maxLen; have : n.length ≤ 100000000000000 := hs; omega
 have hn' : d.length < maxLen := by unfold maxLen; omega
 cases o with
 | none =>
  refine (do_del b K d (mkB n) w hd hs').mono ?_
  rw [mkB_data]
  exact fun _ _ h => h
 | some k =>
  refine (do_put b K d (mkB n) k w hd hs' hn').mono ?_
  rw [mkB_data]
  exact fun _ _ h => h
/-- A text behind a row of bytes: where the new row lies. -/
theorem append_str_at {w : World} (ty : TypeId) (v : Value) (n : Nat) (xs : List Value) (hown : w.ownsRow 0 5 1 v n xs) (s : ByteArray) (h63 : n + s.size ≤ 1000000000) :
  ∃ v' w', (Builtin.append_ #[63, 9] ty #[v, .string s]).run Tryz.prog w = .ok v' w' ∧ w'.ownsRow 0 5 1 v' (n + s.size) (xs ++ Lib.strCells s) ∧ w.grownBy w' v.ownBlock ∧ (v'.ownBlock = v.ownBlock ∨ v'.ownBlock = some w.heap.size) := by
 have hinfo : (Tryz.prog.info? 5).map (fun i => (i.zero, i.size, i.bytes)) = some (some (.int .u8 0), 1, 1) := by kernel_rfl
 obtain ⟨i, hi, hz0⟩ := Option.map_eq_some_iff.1 hinfo
 simp only [Prod.mk.injEq] at hz0
 obtain ⟨z0, z1, z2⟩ := hz0
 obtain ⟨v', w', hr, h1, h2, h3⟩ := Lib.run_append_own_string (P := Tryz.prog) w 0 63 9 ty 5 i Tryz.underlying63 Tryz.underlying9 hi z0 z1 z2 v n xs hown s (by unfold maxLen; omega) (by omega) (Nat.zero_le _)
 refine ⟨v', w', hr, h1, h2, ?_⟩
 rcases hown.2 with ⟨rfl, rfl⟩ | ⟨g, cap, cur, rfl, _, hg, hnc, hcm, hcs, htake⟩
 ·by_cases hm : s.size = 0
  ·rw [h3.2 ⟨rfl, hm⟩]
   exact .inl rfl
  ·have hr2 := run_append_nil_string (P := Tryz.prog) w 63 9 ty 5 i (.int .u8 0) Tryz.underlying63 Tryz.underlying9 hi z0 s (by omega) (by omega) (by rw [z2]; omega)
   have e := hr.symm.trans hr2
   injection e with e1 e2
   rw [e1]
   exact .inr rfl
 ·by_cases hroom : n + s.size ≤ cap
  ·have hcs' : cur.size = cap := by simpa using hcs
   have hr2 := Lib.run_append_room_string (P := Tryz.prog) w 63 9 ty 5 i Tryz.underlying63 Tryz.underlying9 hi z1 g n cap cur hg s hroom (by omega)
   have e := hr.symm.trans hr2
   injection e with e1 e2
   rw [e1]
   exact .inl rfl
  ·have holds : ∀ j u, xs[j]? = some u → w.cell? ((⟨g, 0, none⟩ : Addr).add j) = some u := hown.cells (g := g) rfl
   have hr2 := Lib.run_append_grow_string (P := Tryz.prog) w 63 9 ty 5 i (.int .u8 0) Tryz.underlying63 Tryz.underlying9 hi z0 ⟨g, 0, none⟩ n cap xs (by rw [z1]; simpa using hown.1) holds s (by omega) (by omega) (by rw [z2]; exact growslice_fits (by omega) (by omega))
   have e := hr.symm.trans hr2
   injection e with e1 e2
   rw [e1]
   exact .inr rfl
theorem wpList_append_str {w : World} {ops : Array Oper} {rest : List Oper} {o : Oper} {a : Act} {Q : Exit → Act → World → Prop} (hgd : o.guard = none) (sl x : Operand)
  (ho : o.op = .call { callee := .builtin .append, args := #[sl, x], argTypes := #[63, 9] }) (v : Value) (n : Nat) (xs : List Value) (hs : a.eval sl = v) (hown : w.ownsRow 0 5 1 v n xs) (s : ByteArray) (hx : a.eval x = .string s) (h63 : n + s.size ≤ 1000000000)
  (h : ∀ v' w', w'.ownsRow 0 5 1 v' (n + s.size) (xs ++ Lib.strCells s) → w.grownBy w' v.ownBlock → (v'.ownBlock = v.ownBlock ∨ v'.ownBlock = some w.heap.size) → wpList Tryz.prog ops Q rest (a.put o.dst v') w') : wpList Tryz.prog ops Q (o :: rest) a w := by
 refine wpList_plain hgd fun K hK => ?_
 obtain ⟨v', w', hr, h2, h3, h4⟩ := append_str_at o.type v n xs hown s h63
 unfold Oper.wp execOp
 simp only [ho, resolve, invoke, builtin, Sem.run_bind, Sem.run_pure, Result.andThen_ok, List.map_toArray, List.map_cons, List.map_nil, hs, hx, hr]
 exact hK _ _ (h v' w' h2 h3 h4)
theorem step_info : (Tryz.prog.info? 85).map (fun i => (i.zero, i.size, i.bytes)) = some (some (.agg #[.string ByteArray.empty, .pointer none]), 2, 24) := by kernel_rfl
theorem stepC_one (K : Nat → Addr) (l : List Stp) : ∀ u ∈ stepsC K l, u.oneCell' = true := by
 intro u hu
 obtain ⟨s, _, hs⟩ := List.mem_flatMap.1 hu
 simp [stepC] at hs
 rcases hs with rfl | rfl
 ·rfl
 ·cases s.2 <;> rfl
theorem row_slice {w : World} {base e size n : Nat} {v : Value} {xs : List Value} (h : w.ownsRow base e size v n xs) : ∃ A c, v = .slice A n c := by
 rcases h.2 with ⟨rfl, rfl⟩ | ⟨g, cap, cur, rfl, _⟩
 ·exact ⟨none, 0, rfl⟩
 ·exact ⟨_, _, rfl⟩
theorem row_block {w : World} {base e size n : Nat} {v : Value} {xs : List Value} (h : w.ownsRow base e size v n xs) {k : Nat} (hk : v.ownBlock = some k) : ∃ cs, w.heap[k]? = some (.cells cs e (0, 0)) := by
 rcases h.2 with ⟨rfl, rfl⟩ | ⟨g, cap, cur, rfl, _, hg, _⟩
 ·cases hk
 ·obtain rfl : g = k := Option.some.inj hk
  exact ⟨cur, hg⟩
theorem dir_block {w : World} {b : Nat} {K : Nat → Addr} {d : Dir} (h : OwnDir w b K d) : ∃ es c, w.heap[b]? = some (.map es c) := by
 obtain ⟨es, clock, h1, _⟩ := h
 exact ⟨es, clock, h1⟩
theorem cells_ne {w : World} {a b : Nat} {cs cs' : Array Value} {t t' : TypeId} {z z' : Nat × Nat} (h1 : w.heap[a]? = some (.cells cs t z)) (h2 : w.heap[b]? = some (.cells cs' t' z')) (ht : t ≠ t') : a ≠ b := by
 rintro rfl
 rw [h1] at h2
 injection h2 with h3
 injection h3 with h4 h5
 exact ht h5
theorem cells_ne_map {w : World} {a b : Nat} {cs : Array Value} {t : TypeId} {z : Nat × Nat} {es : Array MapEntry} {c : Nat} (h1 : w.heap[a]? = some (.cells cs t z)) (h2 : w.heap[b]? = some (.map es c)) : a ≠ b := by
 rintro rfl
 rw [h1] at h2
 cases h2
set_option maxRecDepth 100000 in
set_option maxHeartbeats 2000000 in
/-- Of one step, or two: they are done, and laid behind the others. -/
theorem step_one (bp bn g : Nat) (sf st : Value) (pw rm : Int) (K : Nat → Addr) (d : Dir) (l : List Stp) (s : Stp) (w : World) (top : w.heap[bp]? = some (topC sf (.map (some bn)) st pw rm)) (hd : OwnDir w bn K d)
  (hst : w.ownsRow 0 85 2 st l.length (stepsC K l)) (hg : w.heap[g]? = some (.cells (stepC K s).toArray 85 (0, 0))) (hs : s.1.length ≤ 100000000000000) (hn : d.length < 1000000000) (hl : l.length < 1000000000) (hne : st.ownBlock ≠ some g) :
  Calls Tryz.prog 37 #[.pointer (some ⟨bp, 0, none⟩), .slice (some ⟨g, 0, none⟩) 1 1] w fun e w' => e = .returned (.tuple #[]) ∧ OwnDir w' bn K (put d s) ∧ ∃ st', w'.heap[bp]? = some (topC sf (.map (some bn)) st' pw rm) ∧ w'.ownsRow 0 85 2 st' (l.length + 1) (stepsC K (l ++ [s])) ∧ Tch (fun i => i = bn ∨ i = bp ∨ some i = st.ownBlock) w w' ∧ (∀ i, st'.ownBlock = some i → st.ownBlock = some i ∨ w.heap.size ≤ i) := by
 obtain ⟨A, c, rfl⟩ := row_slice hst
 obtain ⟨es, clk, hbn⟩ := dir_block hd
 have c1 : w.cell? ⟨bp, 1, none⟩ = some (.map (some bn)) := cell_at top 1
 have g0 : w.cell? ⟨g, 0, none⟩ = some (.string (mkB s.1)) := cell_at hg 0
 obtain ⟨q, hq⟩ : ∃ q, ptrO K s.2 = .pointer q := by cases s.2 <;> exact ⟨_, rfl⟩
 have g1 : w.cell? ⟨g, 1, none⟩ = some (.pointer q) := by rw [← hq]; exact cell_at hg 1
 have hbnl := blk_lt hbn
 have hlt : bp < w.heap.size := blk_lt top
 have hgl : g < w.heap.size := blk_lt hg
 have n1 : ¬ bp = w.heap.size := by omega
 have n2 : ¬ w.heap.size = bp := by omega
 have hdo : ∀ W : World, W.heap[bn]? = w.heap[bn]? → Calls Tryz.prog 68 #[.map (some bn), .agg #[.string (mkB s.1), .pointer q]] W fun e w' => e = .returned (.tuple #[]) ∧ OwnDir w' bn K (put d s) ∧ Tch (fun i => i = bn) W w' := by
  intro W hW
  rw [← hq]
  exact do_any bn K d s W (map_move hd hW) hs hn
 -- what a world behind the step holds
 have after : ∀ w1 : World, Tch (fun i => i = bn) w w1 → w1.heap[bp]? = some (topC sf (.map (some bn)) (.slice A l.length c) pw rm) ∧ w1.ownsRow 0 85 2 (.slice A l.length c) l.length (stepsC K l) ∧ w1.heap[g]? = some (.cells (stepC K s).toArray 85 (0, 0)) := by
  intro w1 h1
  refine ⟨h1.keep top (cells_ne_map top hbn), own_move hst (fun k hk => ?_), h1.keep hg (cells_ne_map hg hbn)⟩
  obtain ⟨cs, hk2⟩ := row_block hst hk
  exact h1.block k (blk_lt hk2) (cells_ne_map hk2 hbn)
 have HDO := Lib.hid hdo
 have HA := Lib.hid after
 clear hdo after hd hst hg top hbn
 obtain ⟨i0, hi, hz⟩ := Option.map_eq_some_iff.1 step_info
 simp only [Prod.mk.injEq] at hz
 obtain ⟨hz0, hz1, hz2⟩ := hz
 go_enter Tryz.func37, Tryz.ntmps37
 go_wp2
 refine wp_loop_rounds 2 ?_
 rw [rounds_succ]
 go_wp2
 go_region_with (go_at_call 68; refine (HDO.out _ (by exact Below.heap_alloc _ _ _ hbnl)).mono ?_; rintro e w1 ⟨rfl, hd1, ht1⟩)
 all_goals
  have ht := (Tch.alloc (fun i => i = bn) w _).drewA.trans ht1 (fun k hk => .inl hk)
  obtain ⟨top1, hst1, hg1⟩ := HA.out _ ht
  have c2 : w1.cell? ⟨bp, 2, none⟩ = some (.slice A l.length c) := cell_at top1 2
  have f2 : w1.frozen? ⟨bp, 2, none⟩ = false := melt_at top1 2
  go_wp2
  rw [rounds_succ]
  go_wp2_with (first
   | (at_builtin; refine wpList_append_own_at _ rfl _ _ 78 rfl 0 85 i0 _ 2 24 Tryz.underlying78 hi hz0 hz1 hz2 rfl (by decide) _ l.length _ rfl hst1 ⟨g, 0, none⟩ 1 1 (stepC K s) rfl (by simp [stepC]) (fun j u hj => by rw [show ((⟨g, 0, none⟩ : Addr).add j) = ⟨g, j, none⟩ from by unfold Addr.add; split <;> simp_all, cell_at hg1]; simpa using hj) (fun u hu => stepC_one K [s] u (by simpa [stepsC] using hu)) (by unfold maxLen; omega) (by omega) (Nat.zero_le _) ?_; intro v2 w2 hown2 hgr2 hnil2 hloc2; obtain ⟨A2, cc2, rfl⟩ := row_slice hown2; have hrow2 : ∀ k, (Value.slice A l.length c).ownBlock = some k → k ≠ bp ∧ k ≠ bn := (fun k hk => by obtain ⟨cs, hk2⟩ := row_block hst1 hk; exact ⟨cells_ne hk2 top1 (by decide), (by obtain ⟨es1, clk1, hb1⟩ := dir_block hd1; exact cells_ne_map hk2 hb1)⟩); have top2 := (hgr2.block bp (blk_lt top1) (fun e => (hrow2 _ e.symm).1 rfl)).trans top1; have c22 : w2.cell? ⟨bp, 2, none⟩ = some (.slice A l.length c) := cell_at top2 2; have f22 : w2.frozen? ⟨bp, 2, none⟩ = false := melt_at top2 2)
   | go_in)
  go_end0
  obtain ⟨es1, clk1, hb1⟩ := dir_block hd1
  have hbp : bn ≠ bp := fun e => cells_ne_map top1 hb1 e.symm
  refine ⟨rfl, map_move hd1 ?_, .slice A2 (l.length + 1) cc2, ?_, ?_, ?_, ?_⟩
  ·rw [set_other 2 _ hbp, hgr2.block bn (blk_lt hb1) (fun e => (hrow2 _ e.symm).2 rfl)]
  ·exact set_same top2 2 _
  ·have e : stepsC K l ++ stepC K s = stepsC K (l ++ [s]) := by rw [stepsC_snoc]; simp [stepsC]
   rw [← e]
   refine own_move hown2 (fun k hk => set_other 2 _ ?_)
   obtain ⟨cs, hk2⟩ := row_block hown2 hk
   exact cells_ne hk2 top2 (by decide)
  ·refine ((ht.mono (fun k hk _ => .inl hk)).andGrown hgr2 (fun k hk => .inl (.inr (.inr hk.symm)))).andSet _ (.inl (.inr (.inl rfl)))
  ·intro i hi
   rcases hloc2 with h | h
   ·exact .inl (h ▸ hi)
   ·rw [h] at hi
    have := Option.some.inj hi
    have := ht.size
    exact .inr (by omega)
set_option maxRecDepth 100000 in
set_option maxHeartbeats 2000000 in
/-- Two steps. -/
theorem step_two (bp bn g : Nat) (sf st : Value) (pw rm : Int) (K : Nat → Addr) (d : Dir) (l : List Stp) (s t : Stp) (w : World) (top : w.heap[bp]? = some (topC sf (.map (some bn)) st pw rm)) (hd : OwnDir w bn K d)
  (hst : w.ownsRow 0 85 2 st l.length (stepsC K l)) (hg : w.heap[g]? = some (.cells (stepC K s ++ stepC K t).toArray 85 (0, 0))) (hs : s.1.length ≤ 100000000000000) (htl : t.1.length ≤ 100000000000000) (hn : d.length < 100000000) (hl : l.length < 1000000000) (hne : st.ownBlock ≠ some g) :
  Calls Tryz.prog 37 #[.pointer (some ⟨bp, 0, none⟩), .slice (some ⟨g, 0, none⟩) 2 2] w fun e w' => e = .returned (.tuple #[]) ∧ OwnDir w' bn K (put (put d s) t) ∧ ∃ st', w'.heap[bp]? = some (topC sf (.map (some bn)) st' pw rm) ∧ w'.ownsRow 0 85 2 st' (l.length + 2) (stepsC K (l ++ [s, t])) ∧ Tch (fun i => i = bn ∨ i = bp ∨ some i = st.ownBlock) w w' ∧ (∀ i, st'.ownBlock = some i → st.ownBlock = some i ∨ w.heap.size ≤ i) := by
 obtain ⟨A, c, rfl⟩ := row_slice hst
 obtain ⟨es, clk, hbn⟩ := dir_block hd
 have c1 : w.cell? ⟨bp, 1, none⟩ = some (.map (some bn)) := cell_at top 1
 have g0 : w.cell? ⟨g, 0, none⟩ = some (.string (mkB s.1)) := cell_at hg 0
 obtain ⟨q, hq⟩ : ∃ q, ptrO K s.2 = .pointer q := by cases s.2 <;> exact ⟨_, rfl⟩
 obtain ⟨q', hq'⟩ : ∃ q, ptrO K t.2 = .pointer q := by cases t.2 <;> exact ⟨_, rfl⟩
 have g2 : w.cell? ⟨g, 2, none⟩ = some (.string (mkB t.1)) := cell_at hg 2
 have g3 : w.cell? ⟨g, 3, none⟩ = some (.pointer q') := by rw [← hq']; exact cell_at hg 3
 have g1 : w.cell? ⟨g, 1, none⟩ = some (.pointer q) := by rw [← hq]; exact cell_at hg 1
 have hbnl := blk_lt hbn
 have hlt : bp < w.heap.size := blk_lt top
 have hgl : g < w.heap.size := blk_lt hg
 have n1 : ¬ bp = w.heap.size := by omega
 have n2 : ¬ w.heap.size = bp := by omega
 have hdo : ∀ W : World, W.heap[bn]? = w.heap[bn]? → Calls Tryz.prog 68 #[.map (some bn), .agg #[.string (mkB s.1), .pointer q]] W fun e w' => e = .returned (.tuple #[]) ∧ OwnDir w' bn K (put d s) ∧ Tch (fun i => i = bn) W w' := by
  intro W hW
  rw [← hq]
  exact do_any bn K d s W (map_move hd hW) hs (by omega)
 have hdo2 : ∀ W : World, OwnDir W bn K (put d s) → Calls Tryz.prog 68 #[.map (some bn), .agg #[.string (mkB t.1), .pointer q']] W fun e w' => e = .returned (.tuple #[]) ∧ OwnDir w' bn K (put (put d s) t) ∧ Tch (fun i => i = bn) W w' := by
  intro W hW
  rw [← hq']
  exact do_any bn K (put d s) t W hW htl (by have := put_len d s; omega)
 -- what a world behind the step holds
 have after : ∀ w1 : World, Tch (fun i => i = bn) w w1 → w1.heap[bp]? = some (topC sf (.map (some bn)) (.slice A l.length c) pw rm) ∧ w1.ownsRow 0 85 2 (.slice A l.length c) l.length (stepsC K l) ∧ w1.heap[g]? = some (.cells (stepC K s ++ stepC K t).toArray 85 (0, 0)) := by
  intro w1 h1
  refine ⟨h1.keep top (cells_ne_map top hbn), own_move hst (fun k hk => ?_), h1.keep hg (cells_ne_map hg hbn)⟩
  obtain ⟨cs, hk2⟩ := row_block hst hk
  exact h1.block k (blk_lt hk2) (cells_ne_map hk2 hbn)
 have HDO := Lib.hid hdo
 have HDO2 := Lib.hid hdo2
 have HA := Lib.hid after
 clear hdo hdo2 after hd hst hg top hbn
 obtain ⟨i0, hi, hz⟩ := Option.map_eq_some_iff.1 step_info
 simp only [Prod.mk.injEq] at hz
 obtain ⟨hz0, hz1, hz2⟩ := hz
 go_enter Tryz.func37, Tryz.ntmps37
 go_wp2
 refine wp_loop_rounds 3 ?_
 rw [rounds_succ]
 go_wp2
 go_region_with (go_at_call 68; refine (HDO.out _ (by exact Below.heap_alloc _ _ _ hbnl)).mono ?_; rintro e w1 ⟨rfl, hd1, ht1⟩)
 all_goals
  have ht := (Tch.alloc (fun i => i = bn) w _).drewA.trans ht1 (fun k hk => .inl hk)
  obtain ⟨top1, hst1, hg1⟩ := HA.out _ ht
  have x1 : w1.cell? ⟨bp, 1, none⟩ = some (.map (some bn)) := cell_at top1 1
  have y2 : w1.cell? ⟨g, 2, none⟩ = some (.string (mkB t.1)) := cell_at hg1 2
  have y3 : w1.cell? ⟨g, 3, none⟩ = some (.pointer q') := (cell_at hg1 3).trans (by rw [← hq']; rfl)
  have l1 : bp < w1.heap.size := blk_lt top1
  have m1 : ¬ bp = w1.heap.size := by have := ht1.size; have := blk_lt top1; omega
  have m2 : ¬ w1.heap.size = bp := by omega
  obtain ⟨es1, clk1, hb1⟩ := dir_block hd1
  have hb1l := blk_lt hb1
  have HD1 := Lib.hid hd1
  have TT := Lib.hid ht
  clear hd1 hb1 top1 hst1 hg1 ht1 ht
  go_wp2
  rw [rounds_succ]
  go_wp2
  go_region_with (go_at_call 68; refine (HDO2.out _ ((HD1.out.alloc _).drew)).mono ?_; rintro e w5 ⟨rfl, hd5, ht5⟩)
  all_goals
   have ht := TT.out.trans ((Tch.alloc (fun i => i = bn) w1 _).drewA.trans ht5 (fun k hk => .inl hk)) (fun k hk => .inl hk)
   obtain ⟨top5, hst5, hg5⟩ := HA.out _ ht
   have c2 : w5.cell? ⟨bp, 2, none⟩ = some (.slice A l.length c) := cell_at top5 2
   have f2 : w5.frozen? ⟨bp, 2, none⟩ = false := melt_at top5 2
   go_wp2
   rw [rounds_succ]
   go_wp2_with (first
    | (at_builtin; refine wpList_append_own_at _ rfl _ _ 78 rfl 0 85 i0 _ 2 24 Tryz.underlying78 hi hz0 hz1 hz2 rfl (by decide) _ l.length _ rfl hst5 ⟨g, 0, none⟩ 2 2 (stepC K s ++ stepC K t) rfl (by simp [stepC]) (fun j u hj => by rw [show ((⟨g, 0, none⟩ : Addr).add j) = ⟨g, j, none⟩ from by unfold Addr.add; split <;> simp_all, cell_at hg5]; simpa using hj) (fun u hu => stepC_one K [s, t] u (by simpa [stepsC] using hu)) (by unfold maxLen; omega) (by omega) (Nat.zero_le _) ?_; intro v2 w2 hown2 hgr2 hnil2 hloc2; obtain ⟨A2, cc2, rfl⟩ := row_slice hown2; have hrow2 : ∀ k, (Value.slice A l.length c).ownBlock = some k → k ≠ bp ∧ k ≠ bn := (fun k hk => by obtain ⟨cs, hk2⟩ := row_block hst5 hk; exact ⟨cells_ne hk2 top5 (by decide), (by obtain ⟨es5, clk5, hb5⟩ := dir_block hd5; exact cells_ne_map hk2 hb5)⟩); have top2 := (hgr2.block bp (blk_lt top5) (fun e => (hrow2 _ e.symm).1 rfl)).trans top5; have c22 : w2.cell? ⟨bp, 2, none⟩ = some (.slice A l.length c) := cell_at top2 2; have f22 : w2.frozen? ⟨bp, 2, none⟩ = false := melt_at top2 2)
    | go_in)
   go_end0
   obtain ⟨es5, clk5, hb5⟩ := dir_block hd5
   have hbp : bn ≠ bp := fun e => cells_ne_map top5 hb5 e.symm
   refine ⟨rfl, map_move hd5 ?_, .slice A2 (l.length + 2) cc2, ?_, ?_, ?_, ?_⟩
   ·rw [set_other 2 _ hbp, hgr2.block bn (blk_lt hb5) (fun e => (hrow2 _ e.symm).2 rfl)]
   ·exact set_same top2 2 _
   ·have e : stepsC K l ++ (stepC K s ++ stepC K t) = stepsC K (l ++ [s, t]) := by rw [stepsC_snoc]; simp [stepsC]
    rw [← e]
    refine own_move hown2 (fun k hk => set_other 2 _ ?_)
    obtain ⟨cs, hk2⟩ := row_block hown2 hk
    exact cells_ne hk2 top2 (by decide)
   ·refine ((ht.mono (fun k hk _ => .inl hk)).andGrown hgr2 (fun k hk => .inl (.inr (.inr hk.symm)))).andSet _ (.inl (.inr (.inl rfl)))
   ·intro i hi
    rcases hloc2 with h | h
    ·exact .inl (h ▸ hi)
    ·rw [h] at hi
     have := Option.some.inj hi
     have := ht.size
     exact .inr (by omega)
end Go.Proofs.YtfpbpakgajddnaaGreatDoor.Pl
/- PlK -/
namespace Go.Proofs.YtfpbpakgajddnaaGreatDoor.Pl
open Go
set_option linter.unusedVariables false
set_option linter.unusedSimpArgs false
structure Kept (n : L) (k : Nat) (s : L) (m : Mach) : Prop where
  has : (n, k) ∈ m.safe
  only : ∀ p ∈ m.safe, p.2 = k → p.1 = n
  steps : ∀ t ∈ m.steps, t.1 ≠ n ∧ t.2 ≠ some k
  file : fileAt m.files k = ⟨s, []⟩
  lt : k < m.files.length
theorem fileAt_set {fs : List Fil} {i j : Nat} {f : Fil} (h : i ≠ j) : fileAt (fs.set i f) j = fileAt fs j := by
 unfold fileAt
 rw [List.getD_eq_getElem?_getD, List.getD_eq_getElem?_getD, List.getElem?_set_ne h]
theorem fileAt_same {fs : List Fil} {i : Nat} {f : Fil} (h : i < fs.length) : fileAt (fs.set i f) i = f := by
 unfold fileAt
 rw [List.getD_eq_getElem?_getD, List.getElem?_set_self h]
 rfl
theorem fileAt_app {fs : List Fil} {j : Nat} {f : Fil} (h : j < fs.length) : fileAt (fs ++ [f]) j = fileAt fs j := by
 unfold fileAt
 rw [List.getD_eq_getElem?_getD, List.getD_eq_getElem?_getD, List.getElem?_append_left h]
theorem fileAt_new {fs : List Fil} {f : Fil} : fileAt (fs ++ [f]) fs.length = f := by
 unfold fileAt
 rw [List.getD_eq_getElem?_getD, List.getElem?_append_right (Nat.le_refl _)]
 simp
theorem fileAt_map {fs : List Fil} {j : Nat} (g : Fil → Fil) (h : j < fs.length) : fileAt (fs.map g) j = g (fileAt fs j) := by
 unfold fileAt
 rw [List.getD_eq_getElem?_getD, List.getD_eq_getElem?_getD, List.getElem?_map, List.getElem?_eq_getElem h]
 rfl
structure Away (n : L) (m : Mach) : Prop where
  safe : ∀ p ∈ m.safe, p.1 ≠ n
  steps : ∀ t ∈ m.steps, t.1 ≠ n
theorem Away.after {n : L} {m : Mach} (h : Away n m) {l : List Stp} (hl : ∀ t ∈ l, t ∈ m.steps) : ∀ p ∈ after m.safe l, p.1 ≠ n := by
 intro p hp
 rcases mem_after l m.safe p hp with h1 | h1
 ·exact h.safe p h1
 ·exact h.steps _ (hl _ h1)
/-- No file has more than B bytes. -/
def Small (B : Nat) (m : Mach) : Prop := ∀ f ∈ m.files, f.all.length ≤ B
/-- m' has the same directory, and its files have the same bytes. -/
structure Like (m m' : Mach) : Prop where
  safe : m'.safe = m.safe
  steps : m'.steps = m.steps
  power : m'.power = m.power
  len : m'.files.length = m.files.length
  all : ∀ j, (fileAt m'.files j).all = (fileAt m.files j).all
  loose : ∀ j, (fileAt m.files j).loose = [] → (fileAt m'.files j).loose = []
theorem Like.refl (m : Mach) : Like m m := ⟨rfl, rfl, rfl, rfl, fun _ => rfl, fun _ h => h⟩
theorem Like.trans {a b c : Mach} (h : Like a b) (g : Like b c) : Like a c := ⟨g.safe.trans h.safe, g.steps.trans h.steps, g.power.trans h.power, g.len.trans h.len, fun j => (g.all j).trans (h.all j), fun j x => g.loose j (h.loose j x)⟩
theorem Like.now {a b : Mach} (h : Like a b) : b.now = a.now := by unfold Mach.now; rw [h.safe, h.steps]
theorem Like.read {a b : Mach} (h : Like a b) (n : L) : read b n = read a n := by
 unfold Pl.read Mach.find
 rw [h.now]
 split
 ·rfl
 ·rw [h.all]
theorem Like.list {a b : Mach} (h : Like a b) : list b = list a := by unfold Pl.list; rw [h.now]
end Go.Proofs.YtfpbpakgajddnaaGreatDoor.Pl
/- PlP -/
namespace Go.Proofs.YtfpbpakgajddnaaGreatDoor.Pl
open Go Go.RowKit Go.Maps Go.Proofs.YtfpbpakgajddnaaGreatDoorW.PrintWords
set_option linter.unusedVariables false
set_option linter.unusedSimpArgs false
def fileC (bv : Value) (n : Nat) : Obj := .cells #[bv, .int .i64 n] 83 (0, 0)
/-- Which keys the plate can still reach. -/
def Live (m : Mach) (k : Nat) : Prop := (∃ n, (n, k) ∈ m.safe) ∨ (∃ n, (n, some k) ∈ m.steps)
/-- Where a plate's parts lie. -/
structure Pt where
  bs : Nat
  bn : Nat
  st : Value
  fb : Nat → Nat
  bv : Nat → Value
def Pt.K (x : Pt) (k : Nat) : Addr := ⟨x.fb k, 0, none⟩
/-- The plate at block bp reads as the machine m; Lv: the keys whose files are told of. -/
structure PP (w : World) (bp : Nat) (m : Mach) (x : Pt) (Lv : Nat → Prop) : Prop where
  top : w.heap[bp]? = some (topC (.map (some x.bs)) (.map (some x.bn)) x.st m.power m.room)
  safe : OwnDir w x.bs x.K m.safe
  now : OwnDir w x.bn x.K m.now
  steps : w.ownsRow 0 85 2 x.st m.steps.length (stepsC x.K m.steps)
  file : ∀ k, Lv k → w.heap[x.fb k]? = some (fileC (x.bv k) (fileAt m.files k).safe.length)
  bytes : ∀ k, Lv k → w.ownsRow 0 5 1 (x.bv k) (fileAt m.files k).all.length (Lib.byteCells (fileAt m.files k).all)
  ne : x.bs ≠ x.bn
  fne : ∀ k j, Lv k → Lv j → x.fb k = x.fb j → k = j
  bne : ∀ k j b, Lv k → Lv j → (x.bv k).ownBlock = some b → (x.bv j).ownBlock = some b → k = j
  live : ∀ k, Live m k → Lv k
  kl : ∀ k, Lv k → k < m.files.length
def foot (bp : Nat) (x : Pt) (Lv : Nat → Prop) (i : Nat) : Prop := i = bp ∨ i = x.bs ∨ i = x.bn ∨ x.st.ownBlock = some i ∨ ∃ k, Lv k ∧ (i = x.fb k ∨ (x.bv k).ownBlock = some i)
/-- A plate, all of which lies in the blocks F. -/
def Plate (w : World) (bp : Nat) (m : Mach) (F : Nat → Prop) : Prop := ∃ x Lv, PP w bp m x Lv ∧ ∀ i, foot bp x Lv i → F i
/-- F, and what was made between two worlds. -/
def grow (F : Nat → Prop) (w w' : World) (i : Nat) : Prop := F i ∨ (w.heap.size ≤ i ∧ i < w'.heap.size)
section
variable {w w' : World} {bp : Nat} {m : Mach} {x : Pt} {Lv : Nat → Prop} {F : Nat → Prop}
theorem PP.move (h : PP w bp m x Lv) (hm : ∀ i, foot bp x Lv i → w'.heap[i]? = w.heap[i]?) : PP w' bp m x Lv := by
 refine ⟨(hm _ (.inl rfl)).trans h.top, map_move h.safe (hm _ (.inr (.inl rfl))), map_move h.now (hm _ (.inr (.inr (.inl rfl)))), own_move h.steps (fun k hk => hm _ (.inr (.inr (.inr (.inl hk))))), fun k hk => (hm _ (.inr (.inr (.inr (.inr ⟨k, hk, .inl rfl⟩))))).trans (h.file k hk), fun k hk => own_move (h.bytes k hk) (fun i hi => hm _ (.inr (.inr (.inr (.inr ⟨k, hk, .inr hi⟩))))), h.ne, h.fne, h.bne, h.live, h.kl⟩
theorem PP.lt (h : PP w bp m x Lv) {i : Nat} (hi : foot bp x Lv i) : i < w.heap.size := by
 rcases hi with rfl | rfl | rfl | hi | ⟨k, hk, rfl | hi⟩
 ·exact blk_lt h.top
 ·obtain ⟨_, _, e⟩ := dir_block h.safe
  exact blk_lt e
 ·obtain ⟨_, _, e⟩ := dir_block h.now
  exact blk_lt e
 ·obtain ⟨_, e⟩ := row_block h.steps hi
  exact blk_lt e
 ·exact blk_lt (h.file k hk)
 ·obtain ⟨_, e⟩ := row_block (h.bytes k hk) hi
  exact blk_lt e
theorem PP.tch (h : PP w bp m x Lv) (ht : Tch (fun _ => False) w w') : PP w' bp m x Lv := h.move (fun i hi => ht.block i (h.lt hi) id)
theorem PP.alloc (h : PP w bp m x Lv) (o : Obj) : PP (w.alloc o) bp m x Lv := h.tch (Tch.alloc _ w o)
theorem Plate.move (h : Plate w bp m F) (hm : ∀ i, F i → i < w.heap.size → w'.heap[i]? = w.heap[i]?) : Plate w' bp m F := by
 obtain ⟨x, Lv, hx, hF⟩ := h
 exact ⟨x, Lv, hx.move (fun i hi => hm i (hF i hi) (hx.lt hi)), hF⟩
theorem Plate.widen {G : Nat → Prop} (h : Plate w bp m F) (hG : ∀ i, F i → G i) : Plate w bp m G := by
 obtain ⟨x, Lv, hx, hF⟩ := h
 exact ⟨x, Lv, hx, fun i hi => hG i (hF i hi)⟩
/-- The plate's own block is none of the others. -/
theorem PP.bp_ne (h : PP w bp m x Lv) : x.bs ≠ bp ∧ x.bn ≠ bp ∧ x.st.ownBlock ≠ some bp ∧ ∀ k, Lv k → x.fb k ≠ bp ∧ (x.bv k).ownBlock ≠ some bp := by
 refine ⟨?_, ?_, fun e => ?_, fun k hk => ⟨?_, fun e => ?_⟩⟩
 ·obtain ⟨_, _, e⟩ := dir_block h.safe
  exact (cells_ne_map h.top e).symm
 ·obtain ⟨_, _, e⟩ := dir_block h.now
  exact (cells_ne_map h.top e).symm
 ·obtain ⟨_, e2⟩ := row_block h.steps e
  exact cells_ne h.top e2 (by decide) rfl
 ·exact (cells_ne h.top (h.file k hk) (by decide)).symm
 ·obtain ⟨_, e2⟩ := row_block (h.bytes k hk) e
  exact cells_ne h.top e2 (by decide) rfl
/-- Power is set. -/
theorem PP.power (h : PP w bp m x Lv) (p : Int) : PP (w.setCell ⟨bp, 3, none⟩ (.int .i64 p)) bp { m with power := p } x Lv := by
 obtain ⟨n1, n2, n3, n4⟩ := h.bp_ne
 refine ⟨set_same h.top 3 _, map_move h.safe (set_other 3 _ n1), map_move h.now (set_other 3 _ n2), own_move h.steps (fun k hk => set_other 3 _ (fun e => n3 (e ▸ hk))), fun k hk => (set_other 3 _ (n4 k hk).1).trans (h.file k hk), fun k hk => own_move (h.bytes k hk) (fun i hi => set_other 3 _ (fun e => (n4 k hk).2 (e ▸ hi))), h.ne, h.fne, h.bne, h.live, h.kl⟩
theorem stepsC_congr {K K' : Nat → Addr} {l : List Stp} (h : ∀ s ∈ l, ∀ k, s.2 = some k → K k = K' k) : stepsC K l = stepsC K' l := by
 unfold stepsC
 rw [List.flatMap_def, List.flatMap_def]
 congr 1
 refine List.map_congr_left (fun s hs => ?_)
 unfold stepC
 cases hk : s.2 with
 | none => rfl
 | some k => simp only [ptrO]; rw [h s hs k hk]
theorem live_now {m : Mach} {p : L × Nat} (h : p ∈ m.now) : Live m p.2 := by
 rcases mem_after _ _ p h with h1 | h1
 ·exact .inl ⟨p.1, h1⟩
 ·exact .inr ⟨p.1, h1⟩
/-- A file more, that nothing leads to yet. -/
def Pt.more (x : Pt) (n b : Nat) : Pt := { x with fb := fun k => if k = n then b else x.fb k, bv := fun k => if k = n then .slice none 0 0 else x.bv k }
theorem Pt.more_K (x : Pt) (n b : Nat) {k : Nat} (h : k ≠ n) : (x.more n b).K k = x.K k := by
 show (⟨if k = n then b else x.fb k, 0, none⟩ : Addr) = _
 rw [if_neg h]
 rfl
theorem PP.file_more (h : PP w bp m x Lv) : PP (w.alloc (fileC (.slice none 0 0) 0)) bp { m with files := m.files ++ [⟨[], []⟩] } (x.more m.files.length w.heap.size) (fun k => Lv k ∨ k = m.files.length) := by
 have h' := h.alloc (fileC (.slice none 0 0) 0)
 have hK : ∀ k, Lv k → k ≠ m.files.length := fun k hk => Nat.ne_of_lt (h.kl k hk)
 have hfb : ∀ k, Lv k → (x.more m.files.length w.heap.size).fb k = x.fb k := fun k hk => if_neg (hK k hk)
 have hbv : ∀ k, Lv k → (x.more m.files.length w.heap.size).bv k = x.bv k := fun k hk => if_neg (hK k hk)
 have hf0 : (x.more m.files.length w.heap.size).fb m.files.length = w.heap.size := if_pos rfl
 have hb0 : (x.more m.files.length w.heap.size).bv m.files.length = .slice none 0 0 := if_pos rfl
 have hold : ∀ k, Lv k → fileAt (m.files ++ [⟨[], []⟩]) k = fileAt m.files k := fun k hk => fileAt_app (h.kl k hk)
 have hnew : fileAt (m.files ++ [⟨[], []⟩]) m.files.length = ⟨[], []⟩ := fileAt_new
 refine ⟨h'.top, ?_, ?_, ?_, fun k hk => ?_, fun k hk => ?_, h.ne, fun k j hk hj e => ?_, fun k j b hk hj e1 e2 => ?_, fun k hk => ?_, fun k hk => ?_⟩
 ·have e : dirD (x.more m.files.length w.heap.size).K m.safe = dirD x.K m.safe := dir_congr (fun p hp => Pt.more_K x _ _ (hK _ (h.live _ (.inl ⟨p.1, hp⟩))))
  show World.ownsMap _ _ _ _ _ _ (dirD _ m.safe)
  rw [e]
  exact h'.safe
 ·have e : dirD (x.more m.files.length w.heap.size).K m.now = dirD x.K m.now := dir_congr (fun p hp => Pt.more_K x _ _ (hK _ (h.live _ (live_now hp))))
  show World.ownsMap _ _ _ _ _ _ (dirD _ m.now)
  rw [e]
  exact h'.now
 ·have e : stepsC (x.more m.files.length w.heap.size).K m.steps = stepsC x.K m.steps := stepsC_congr (fun s hs k hk => Pt.more_K x _ _ (hK _ (h.live _ (.inr ⟨s.1, by rw [← hk]; exact hs⟩))))
  show World.ownsRow _ _ _ _ _ _ (stepsC _ m.steps)
  rw [e]
  exact h'.steps
 ·rcases hk with hk | rfl
  ·rw [hfb k hk, hbv k hk]
   show _ = some (fileC _ (fileAt (m.files ++ [⟨[], []⟩]) k).safe.length)
   rw [hold k hk]
   exact h'.file k hk
  ·rw [hf0, hb0]
   show _ = some (fileC _ (fileAt (m.files ++ [⟨[], []⟩]) m.files.length).safe.length)
   rw [hnew]
   exact alloc_new w _
 ·rcases hk with hk | rfl
  ·rw [hbv k hk]
   show World.ownsRow _ _ _ _ _ (fileAt (m.files ++ [⟨[], []⟩]) k).all.length (Lib.byteCells (fileAt (m.files ++ [⟨[], []⟩]) k).all)
   rw [hold k hk]
   exact h'.bytes k hk
  ·rw [hb0]
   show World.ownsRow _ _ _ _ _ (fileAt (m.files ++ [⟨[], []⟩]) m.files.length).all.length (Lib.byteCells (fileAt (m.files ++ [⟨[], []⟩]) m.files.length).all)
   rw [hnew]
   exact World.ownsRow_nil _ _ _ _
 ·rcases hk with hk | rfl <;> rcases hj with hj | rfl
  ·rw [hfb k hk, hfb j hj] at e
   exact h.fne k j hk hj e
  ·rw [hfb k hk, hf0] at e
   have := blk_lt (h.file k hk)
   omega
  ·rw [hfb j hj, hf0] at e
   have := blk_lt (h.file j hj)
   omega
  ·rfl
 ·rcases hk with hk | rfl <;> rcases hj with hj | rfl
  ·rw [hbv k hk] at e1
   rw [hbv j hj] at e2
   exact h.bne k j b hk hj e1 e2
  ·rw [hb0] at e2; cases e2
  ·rw [hb0] at e1; cases e1
  ·rfl
 ·exact .inl (h.live k hk)
 ·show k < (m.files ++ [_]).length
  rw [List.length_append]
  rcases hk with hk | rfl
  ·have := h.kl k hk; omega
  ·simp
theorem foot_more (h : PP w bp m x Lv) : ∀ i, foot bp (x.more m.files.length w.heap.size) (fun k => Lv k ∨ k = m.files.length) i → foot bp x Lv i ∨ i = w.heap.size := by
 have hK : ∀ k, Lv k → k ≠ m.files.length := fun k hk => Nat.ne_of_lt (h.kl k hk)
 rintro i (hi | hi | hi | hi | ⟨k, hk | rfl, hi⟩)
 ·exact .inl (.inl hi)
 ·exact .inl (.inr (.inl hi))
 ·exact .inl (.inr (.inr (.inl hi)))
 ·exact .inl (.inr (.inr (.inr (.inl hi))))
 ·have e1 : (x.more m.files.length w.heap.size).fb k = x.fb k := if_neg (hK k hk)
  have e2 : (x.more m.files.length w.heap.size).bv k = x.bv k := if_neg (hK k hk)
  rw [e1, e2] at hi
  exact .inl (.inr (.inr (.inr (.inr ⟨k, hk, hi⟩))))
 ·have e1 : (x.more m.files.length w.heap.size).fb m.files.length = w.heap.size := if_pos rfl
  have e2 : (x.more m.files.length w.heap.size).bv m.files.length = .slice none 0 0 := if_pos rfl
  rw [e1, e2] at hi
  rcases hi with hi | hi
  ·exact .inr hi
  ·cases hi
/-- Behind steps that were done: the same files, another directory. -/
theorem PP.stepped (h : PP w bp m x Lv) (news : List Stp) (st' : Value) (hT : Tch (fun i => i = x.bn ∨ i = bp ∨ some i = x.st.ownBlock) w w') (top' : w'.heap[bp]? = some (topC (.map (some x.bs)) (.map (some x.bn)) st' m.power m.room)) (now' : OwnDir w' x.bn x.K (after m.now news))
  (row' : w'.ownsRow 0 85 2 st' (m.steps.length + news.length) (stepsC x.K (m.steps ++ news))) (hnew : ∀ s ∈ news, ∀ k, s.2 = some k → Lv k) : PP w' bp { m with steps := m.steps ++ news } { x with st := st' } Lv := by
 obtain ⟨n1, n2, n3, n4⟩ := h.bp_ne
 have key : ∀ i, i < w.heap.size → i ≠ x.bn → i ≠ bp → x.st.ownBlock ≠ some i → w'.heap[i]? = w.heap[i]? := fun i hl a b c => hT.block i hl (fun e => e.elim a (fun e => e.elim b (fun e => c e.symm)))
 obtain ⟨_, _, ebn⟩ := dir_block h.now
 refine ⟨top', map_move h.safe (key _ (h.lt (.inr (.inl rfl))) h.ne n1 (fun e => ?_)), ?_, ?_, fun k hk => ?_, fun k hk => own_move (h.bytes k hk) (fun i hi => ?_), h.ne, h.fne, h.bne, fun k hk => ?_, h.kl⟩
 ·obtain ⟨_, _, es⟩ := dir_block h.safe
  obtain ⟨_, er⟩ := row_block h.steps e
  exact cells_ne_map er es rfl
 ·show OwnDir w' x.bn x.K (after m.safe (m.steps ++ news))
  rw [after_append]
  exact now'
 ·show w'.ownsRow 0 _ 2 st' (m.steps ++ news).length (stepsC x.K (m.steps ++ news))
  rw [List.length_append]
  exact row'
 ·refine (key _ (h.lt (.inr (.inr (.inr (.inr ⟨k, hk, .inl rfl⟩))))) (cells_ne_map (h.file k hk) ebn) (n4 k hk).1 (fun e => ?_)).trans (h.file k hk)
  obtain ⟨_, er⟩ := row_block h.steps e
  exact cells_ne er (h.file k hk) (by decide) rfl
 ·obtain ⟨_, eb⟩ := row_block (h.bytes k hk) hi
  refine key i (blk_lt eb) (cells_ne_map eb ebn) (fun e => (n4 k hk).2 (e ▸ hi)) (fun e => ?_)
  obtain ⟨_, er⟩ := row_block h.steps e
  exact cells_ne er eb (by decide) rfl
 ·rcases hk with hk | ⟨n, hk⟩
  ·exact h.live k (.inl hk)
  ·rcases List.mem_append.1 hk with hk | hk
   ·exact h.live k (.inr ⟨n, hk⟩)
   ·exact hnew _ hk k rfl
/-- One file turned. -/
theorem PP.file_new (h : PP w bp m x Lv) {k : Nat} (hk : Lv k) (v' : Value) (f' : Fil) (hw : ∀ i, i < w.heap.size → i ≠ x.fb k → (x.bv k).ownBlock ≠ some i → w'.heap[i]? = w.heap[i]?) (hf : w'.heap[x.fb k]? = some (fileC v' f'.safe.length))
  (hb : w'.ownsRow 0 5 1 v' f'.all.length (Lib.byteCells f'.all)) (hloc : ∀ b, v'.ownBlock = some b → (x.bv k).ownBlock = some b ∨ w.heap.size ≤ b) :
  PP w' bp { m with files := m.files.set k f' } { x with bv := fun j => if j = k then v' else x.bv j } Lv ∧ ∀ i, foot bp { x with bv := fun j => if j = k then v' else x.bv j } Lv i → foot bp x Lv i ∨ w.heap.size ≤ i := by
 obtain ⟨n1, n2, n3, n4⟩ := h.bp_ne
 have hkf := h.file k hk
 have cellsb : ∀ {i : Nat} {cs : Array Value} {t : TypeId}, w.heap[i]? = some (.cells cs t (0, 0)) → t ≠ 5 → (x.bv k).ownBlock ≠ some i := by
  intro i cs t hi ht e
  obtain ⟨_, e2⟩ := row_block (h.bytes k hk) e
  exact cells_ne hi e2 ht rfl
 have mapb : ∀ {i : Nat} {es : Array MapEntry} {c : Nat}, w.heap[i]? = some (.map es c) → (x.bv k).ownBlock ≠ some i := by
  intro i es c hi e
  obtain ⟨_, e2⟩ := row_block (h.bytes k hk) e
  exact cells_ne_map e2 hi rfl
 have hsame : fileAt (m.files.set k f') k = f' := fileAt_same (h.kl k hk)
 have hoth : ∀ j, j ≠ k → fileAt (m.files.set k f') j = fileAt m.files j := fun j hj => fileAt_set (fun e => hj e.symm)
 refine ⟨⟨?_, ?_, ?_, ?_, fun j hj => ?_, fun j hj => ?_, h.ne, h.fne, fun i j b hi hj e1 e2 => ?_, h.live, fun j hj => ?_⟩, ?_⟩
 ·exact (hw bp (blk_lt h.top) (fun e => (n4 k hk).1 e.symm) (n4 k hk).2).trans h.top
 ·obtain ⟨_, _, e⟩ := dir_block h.safe
  exact map_move h.safe (hw _ (blk_lt e) (fun e2 => cells_ne_map hkf e e2.symm) (mapb e))
 ·obtain ⟨_, _, e⟩ := dir_block h.now
  exact map_move h.now (hw _ (blk_lt e) (fun e2 => cells_ne_map hkf e e2.symm) (mapb e))
 ·refine own_move h.steps (fun i hi => ?_)
  obtain ⟨_, e⟩ := row_block h.steps hi
  exact hw i (blk_lt e) (cells_ne e hkf (by decide)) (cellsb e (by decide))
 ·by_cases e : j = k
  ·subst e
   show w'.heap[x.fb j]? = some (fileC (if j = j then v' else x.bv j) (fileAt (m.files.set j f') j).safe.length)
   rw [if_pos rfl, hsame]
   exact hf
  ·show w'.heap[x.fb j]? = some (fileC (if j = k then v' else x.bv j) (fileAt (m.files.set k f') j).safe.length)
   rw [if_neg e, hoth j e]
   exact (hw _ (blk_lt (h.file j hj)) (fun e2 => e (h.fne j k hj hk e2)) (cellsb (h.file j hj) (by decide))).trans (h.file j hj)
 ·by_cases e : j = k
  ·subst e
   show w'.ownsRow 0 _ 1 (if j = j then v' else x.bv j) (fileAt (m.files.set j f') j).all.length (Lib.byteCells (fileAt (m.files.set j f') j).all)
   rw [if_pos rfl, hsame]
   exact hb
  ·show w'.ownsRow 0 _ 1 (if j = k then v' else x.bv j) (fileAt (m.files.set k f') j).all.length (Lib.byteCells (fileAt (m.files.set k f') j).all)
   rw [if_neg e, hoth j e]
   refine own_move (h.bytes j hj) (fun i hi => ?_)
   obtain ⟨_, e2⟩ := row_block (h.bytes j hj) hi
   exact hw i (blk_lt e2) (cells_ne e2 hkf (by decide)) (fun e3 => e (h.bne j k i hj hk hi e3))
 ·have e1' : (if i = k then v' else x.bv i).ownBlock = some b := e1
  have e2' : (if j = k then v' else x.bv j).ownBlock = some b := e2
  have old : ∀ q, Lv q → (x.bv q).ownBlock = some b → b < w.heap.size := fun q hq e => by
   obtain ⟨_, e3⟩ := row_block (h.bytes q hq) e
   exact blk_lt e3
  by_cases ei : i = k <;> by_cases ej : j = k
  ·rw [ei, ej]
  ·rw [if_pos ei] at e1'
   rw [if_neg ej] at e2'
   rcases hloc b e1' with h1 | h1
   ·rw [ei]; exact h.bne k j b hk hj h1 e2'
   ·have := old j hj e2'
    omega
  ·rw [if_neg ei] at e1'
   rw [if_pos ej] at e2'
   rcases hloc b e2' with h1 | h1
   ·rw [ej]; exact h.bne i k b hi hk e1' h1
   ·have := old i hi e1'
    omega
  ·rw [if_neg ei] at e1'
   rw [if_neg ej] at e2'
   exact h.bne i j b hi hj e1' e2'
 ·show j < (m.files.set k f').length
  rw [List.length_set]
  exact h.kl j hj
 ·rintro i (hi | hi | hi | hi | ⟨j, hj, hi⟩)
  ·exact .inl (.inl hi)
  ·exact .inl (.inr (.inl hi))
  ·exact .inl (.inr (.inr (.inl hi)))
  ·exact .inl (.inr (.inr (.inr (.inl hi))))
  ·rcases hi with hi | hi
   ·exact .inl (.inr (.inr (.inr (.inr ⟨j, hj, .inl hi⟩))))
   ·have hi' : (if j = k then v' else x.bv j).ownBlock = some i := hi
    by_cases e : j = k
    ·rw [if_pos e] at hi'
     exact (hloc i hi').imp (fun h1 => .inr (.inr (.inr (.inr ⟨k, hk, .inr h1⟩)))) id
    ·rw [if_neg e] at hi'
     exact .inl (.inr (.inr (.inr (.inr ⟨j, hj, .inr hi'⟩))))
end
def eC (n : Int) : Obj := .cells #[.int .i64 n] 29 (0, 0)
/-- The named result's own cell, wherever nothing below has turned. -/
theorem e_at {w w2 : World} (h : Tch (fun _ => False) (w.alloc (eC 0)) w2) : w2.heap[w.heap.size]? = some (eC 0) := h.keep (alloc_new w _) id
/-- Behind a call: the plate reads as m'; only its own blocks have turned; it lies in them and in new ones. -/
def Res (w w' : World) (bp : Nat) (m' : Mach) (x : Pt) (Lv : Nat → Prop) : Prop := ∃ x' Lv', PP w' bp m' x' Lv' ∧ Tch (foot bp x Lv) w w' ∧ ∀ i, foot bp x' Lv' i → foot bp x Lv i ∨ w.heap.size ≤ i
section
variable {w w' w1 : World} {bp : Nat} {m m' : Mach} {x : Pt} {Lv : Nat → Prop} {F : Nat → Prop}
theorem Res.plate (h : Res w w' bp m' x Lv) (hF : ∀ i, foot bp x Lv i → F i) : Plate w' bp m' (grow F w w') ∧ Tch F w w' := by
 obtain ⟨x', Lv', pp, ht, hf⟩ := h
 refine ⟨⟨x', Lv', pp, fun i hi => ?_⟩, ht.mono (fun k hk _ => hF k hk)⟩
 rcases hf i hi with h1 | h1
 ·exact .inl (hF i h1)
 ·exact .inr ⟨h1, pp.lt hi⟩
theorem Res.same (h : PP w bp m x Lv) (ht : Tch (fun _ => False) w w') : Res w w' bp m x Lv := ⟨x, Lv, h.tch ht, ht.mono (fun _ h _ => h.elim), fun _ h => .inl h⟩
/-- Ahead of it, and behind it, nothing but new blocks. -/
theorem Res.ahead (h : Res w1 w' bp m' x Lv) (ht : Tch (fun _ => False) w w1) : Res w w' bp m' x Lv := by
 obtain ⟨x', Lv', pp, ht', hf⟩ := h
 exact ⟨x', Lv', pp, (ht.mono (fun _ h _ => h.elim)).trans ht' (fun k hk => .inl hk), fun i hi => (hf i hi).imp id (fun h => Nat.le_trans ht.size h)⟩
theorem Res.behind {w2 : World} (h : Res w w1 bp m' x Lv) (ht : Tch (fun _ => False) w1 w2) : Res w w2 bp m' x Lv := by
 obtain ⟨x', Lv', pp, ht', hf⟩ := h
 exact ⟨x', Lv', pp.tch ht, ht'.trans ht (fun _ h => h.elim), hf⟩
/-- A store into a block that is none of the plate's. -/
theorem Res.store (h : Res w w1 bp m' x Lv) {b : Nat} (hb : w.heap.size ≤ b) (hn : ∃ n, w1.heap[b]? = some (eC n)) (u : Value) (i : Nat) : Res w (w1.setCell ⟨b, i, none⟩ u) bp m' x Lv := by
 obtain ⟨x', Lv', pp, ht', hf⟩ := h
 obtain ⟨n, hn⟩ := hn
 have hne : ∀ j, foot bp x' Lv' j → j ≠ b := by
  rintro j (rfl | rfl | rfl | hj | ⟨k, hk, rfl | hj⟩)
  ·exact cells_ne pp.top hn (by decide)
  ·obtain ⟨_, _, e⟩ := dir_block pp.safe
   exact (cells_ne_map hn e).symm
  ·obtain ⟨_, _, e⟩ := dir_block pp.now
   exact (cells_ne_map hn e).symm
  ·obtain ⟨_, e⟩ := row_block pp.steps hj
   exact cells_ne e hn (by decide)
  ·exact cells_ne (pp.file k hk) hn (by decide)
  ·obtain ⟨_, e⟩ := row_block (pp.bytes k hk) hj
   exact cells_ne e hn (by decide)
 exact ⟨x', Lv', pp.move (fun j hj => set_other i u (hne j hj)), ht'.andSet u (.inr hb), hf⟩
theorem p_step1 (pp : PP w bp m x Lv) (s : Stp) (g : Nat) (hg : w.heap[g]? = some (.cells (stepC x.K s).toArray 85 (0, 0))) (hgf : ¬ foot bp x Lv g) (hs : s.1.length ≤ 100000000000000) (hn : m.now.length < 1000000000) (hl : m.steps.length < 1000000000) (hnew : ∀ k, s.2 = some k → Lv k) :
  Calls Tryz.prog 37 #[.pointer (some ⟨bp, 0, none⟩), .slice (some ⟨g, 0, none⟩) 1 1] w fun e w' => e = .returned (.tuple #[]) ∧ Res w w' bp { m with steps := m.steps ++ [s] } x Lv := by
 refine (step_one bp x.bn g _ x.st m.power m.room x.K m.now m.steps s w pp.top pp.now pp.steps hg hs hn hl (fun e => hgf (.inr (.inr (.inr (.inl e)))))).mono ?_
 rintro e w' ⟨he, hd, st', top', row', ht, hloc⟩
 refine ⟨he, { x with st := st' }, Lv, pp.stepped [s] st' ht top' hd row' (fun t ht' k hk => hnew k (by rw [← List.mem_singleton.1 ht']; exact hk)), ht.mono (fun i hi _ => ?_), fun i hi => ?_⟩
 ·rcases hi with rfl | rfl | hi
  ·exact .inr (.inr (.inl rfl))
  ·exact .inl rfl
  ·exact .inr (.inr (.inr (.inl hi.symm)))
 ·rcases hi with hi | hi | hi | hi | hi
  ·exact .inl (.inl hi)
  ·exact .inl (.inr (.inl hi))
  ·exact .inl (.inr (.inr (.inl hi)))
  ·exact (hloc i hi).imp (fun h => .inr (.inr (.inr (.inl h)))) id
  ·exact .inl (.inr (.inr (.inr (.inr hi))))
theorem p_step2 (pp : PP w bp m x Lv) (s t : Stp) (g : Nat) (hg : w.heap[g]? = some (.cells (stepC x.K s ++ stepC x.K t).toArray 85 (0, 0))) (hgf : ¬ foot bp x Lv g) (hs : s.1.length ≤ 100000000000000) (htl : t.1.length ≤ 100000000000000) (hn : m.now.length < 100000000) (hl : m.steps.length < 1000000000) (hnew : ∀ k, s.2 = some k ∨ t.2 = some k → Lv k) :
  Calls Tryz.prog 37 #[.pointer (some ⟨bp, 0, none⟩), .slice (some ⟨g, 0, none⟩) 2 2] w fun e w' => e = .returned (.tuple #[]) ∧ Res w w' bp { m with steps := m.steps ++ [s, t] } x Lv := by
 refine (step_two bp x.bn g _ x.st m.power m.room x.K m.now m.steps s t w pp.top pp.now pp.steps hg hs htl hn hl (fun e => hgf (.inr (.inr (.inr (.inl e)))))).mono ?_
 rintro e w' ⟨he, hd, st', top', row', ht, hloc⟩
 refine ⟨he, { x with st := st' }, Lv, pp.stepped [s, t] st' ht top' hd row' (fun u hu k hk => hnew k (by
  rcases List.mem_cons.1 hu with rfl | hu
  ·exact .inl hk
  ·rw [← List.mem_singleton.1 hu]; exact .inr hk)), ht.mono (fun i hi _ => ?_), fun i hi => ?_⟩
 ·rcases hi with rfl | rfl | hi
  ·exact .inr (.inr (.inl rfl))
  ·exact .inl rfl
  ·exact .inr (.inr (.inr (.inl hi.symm)))
 ·rcases hi with hi | hi | hi | hi | hi
  ·exact .inl (.inl hi)
  ·exact .inl (.inr (.inl hi))
  ·exact .inl (.inr (.inr (.inl hi)))
  ·exact (hloc i hi).imp (fun h => .inr (.inr (.inr (.inl h)))) id
  ·exact .inl (.inr (.inr (.inr (.inr hi))))
theorem set_size_ (w : World) (a : Addr) (u : Value) : (w.setCell a u).heap.size = w.heap.size := by simp [World.setCell]
theorem create_go (pp : PP w bp m x Lv) (p : Int) (s : ByteArray) (hs : s.size ≤ 100000000000000) (hn : m.now.length < 1000000000) (hl : m.steps.length < 1000000000) :
  Calls Tryz.prog 37 #[.pointer (some ⟨bp, 0, none⟩), .slice (some ⟨w.heap.size + 1, 0, none⟩) 1 1] (((w.setCell ⟨bp, 3, none⟩ (.int .i64 p)).alloc (fileC (.slice none 0 0) 0)).alloc (.cells #[.string s, .pointer (some ⟨w.heap.size, 0, none⟩)] 85 (0, 0))) fun e w' =>
   e = .returned (.tuple #[]) ∧ Res w w' bp { m with files := m.files ++ [⟨[], []⟩], steps := m.steps ++ [(s.data.toList, some m.files.length)], power := p } x Lv := by
 have hsz : (w.setCell ⟨bp, 3, none⟩ (.int .i64 p)).heap.size = w.heap.size := set_size_ _ _ _
 have pp2 := (pp.power p).file_more
 rw [hsz] at pp2
 have hfo := foot_more (pp.power p)
 rw [hsz] at hfo
 have pp3 := pp2.alloc (.cells #[.string s, .pointer (some ⟨w.heap.size, 0, none⟩)] 85 (0, 0))
 have hsz2 : ((w.setCell ⟨bp, 3, none⟩ (.int .i64 p)).alloc (fileC (.slice none 0 0) 0)).heap.size = w.heap.size + 1 := by
  show (Array.push _ _).size = _
  rw [Array.size_push, hsz]
 have hg := alloc_new ((w.setCell ⟨bp, 3, none⟩ (.int .i64 p)).alloc (fileC (.slice none 0 0) 0)) (.cells #[.string s, .pointer (some ⟨w.heap.size, 0, none⟩)] 85 (0, 0))
 rw [hsz2] at hg
 have hf0 : (x.more m.files.length w.heap.size).K m.files.length = ⟨w.heap.size, 0, none⟩ := by
  show (⟨if m.files.length = m.files.length then w.heap.size else x.fb m.files.length, 0, none⟩ : Addr) = _
  rw [if_pos rfl]
 have hst : stepC (x.more m.files.length w.heap.size).K (s.data.toList, some m.files.length) = [.string s, .pointer (some ⟨w.heap.size, 0, none⟩)] := by
  unfold stepC ptrO
  rw [mkB_self]
  simp only
  rw [hf0]
 refine (p_step1 pp3 (s.data.toList, some m.files.length) (w.heap.size + 1) (by rw [hst]; exact hg) (fun hf => ?_) (by show s.data.toList.length ≤ _; rw [← Lib.size_eq]; exact hs) hn hl (fun k hk => .inr (Option.some.inj hk).symm)).mono ?_
 ·have := pp2.lt hf
  omega
 ·rintro e w' ⟨he, x', Lv', pp', ht', hf'⟩
  refine ⟨he, x', Lv', pp', ?_, fun i hi => ?_⟩
  ·have t1 : Tch (foot bp x Lv) w (((w.setCell ⟨bp, 3, none⟩ (.int .i64 p)).alloc (fileC (.slice none 0 0) 0)).alloc (.cells #[.string s, .pointer (some ⟨w.heap.size, 0, none⟩)] 85 (0, 0))) := ((Tch.setCell (F := foot bp x Lv) (p := ⟨bp, 3, none⟩) w _ (.inl rfl)).andAlloc _).andAlloc _
   exact t1.trans ht' (fun k hk => (hfo k hk).imp id (fun e => by omega))
  ·rcases hf' i hi with h1 | h1
   ·exact (hfo i h1).imp id (fun e => by omega)
   ·have : w.heap.size ≤ (((w.setCell ⟨bp, 3, none⟩ (.int .i64 p)).alloc (fileC (.slice none 0 0) 0)).alloc (.cells #[.string s, .pointer (some ⟨w.heap.size, 0, none⟩)] 85 (0, 0))).heap.size := by
     show _ ≤ (Array.push _ _).size
     rw [Array.size_push, hsz2]
     omega
    exact .inr (by omega)
end
theorem create_bad (bp : Nat) (s : ByteArray) (w : World) (hn : nameOk s.data.toList = false) :
  Calls Tryz.prog 10 #[.pointer (some ⟨bp, 0, none⟩), .string s] w fun e w' => e = .returned (.int .i64 1) ∧ Tch (fun _ => False) w w' := by
 have hmay := Lib.hid (fun W => may_calls s W)
 go_enter_defers Tryz.func10, Tryz.ntmps10
 go_wp2_with (first
  | (go_at_call 35; refine (hmay.out _).mono ?_; rintro e w1 ⟨rfl, hb1⟩; rw [hn])
  | (go_at_call 34; refine (check_no 1 _).mono ?_; rintro e w2 ⟨rfl, rfl⟩)
  | go_in)
 have he := e_at (Tch.of_below hb1)
 refine leaves_cons (f := 33) (args := #[.pointer (some ⟨w.heap.size, 0, none⟩)]) (by simp) (by simp [go_sem]) ?_
 refine (caught_panicking ⟨w.heap.size, 0, none⟩ 0 1 _ (cell_at he 0) (melt_at he 0)).mono ?_
 rintro e u' w'' ⟨rfl, rfl, rfl⟩
 have hr : (World.setCell _ ⟨w.heap.size, 0, none⟩ (Value.int .i64 1)).cell? ⟨w.heap.size, 0, none⟩ = some (.int .i64 1) := cell_at (set_same he 0 (.int .i64 1)) 0
 simp [Leaves, settle, results, Tryz.results10, go_sem, hr]
 exact ((Tch.alloc _ w _).andBelow hb1).andSet _ (.inr (Nat.le_refl _))
set_option maxRecDepth 100000 in
set_option maxHeartbeats 1000000 in
theorem create_twice (bp : Nat) (m : Mach) (x : Pt) (Lv : Nat → Prop) (s : ByteArray) (w : World) (pp0 : PP w bp m x Lv) (hn : nameOk s.data.toList = true) (hs : s.size ≤ maxLen) (k : Nat) (hl : look m.now s.data.toList = some k) :
  Calls Tryz.prog 10 #[.pointer (some ⟨bp, 0, none⟩), .string s] w fun e w' => e = .returned (.int .i64 11) ∧ Tch (fun _ => False) w w' := by
 have hmay := Lib.hid (fun W => may_calls s W)
 have pp := Lib.hid pp0
 clear pp0
 go_enter_defers Tryz.func10, Tryz.ntmps10
 go_wp2_with (first
  | (go_at_call 35; refine (hmay.out _).mono ?_; rintro e w1 ⟨rfl, hb1⟩; rw [hn]; have T1 := Lib.hid (show Tch (fun _ => False) w w1 from (Tch.alloc _ w _).andBelow hb1); have HE := Lib.hid (e_at (Tch.of_below hb1)); have PP1 := Lib.hid (pp.out.tch T1.out); have c1 : w1.cell? ⟨bp, 1, none⟩ = some (.map (some x.bn)) := cell_at PP1.out.top 1; have hrun := dir_lookup PP1.out.now s hs; rw [hl] at hrun; simp only at hrun; clear hb1)
  | (go_at_call 34; first | (with_reducible refine (check_ok _ _).mono ?_; rintro e w2 ⟨rfl, rfl⟩) | (with_reducible refine (check_no _ _).mono ?_; rintro e w2 ⟨rfl, rfl⟩))
  | go_in)
 have he := HE.out
 refine leaves_cons (f := 33) (args := #[.pointer (some ⟨w.heap.size, 0, none⟩)]) (by simp) (by simp [go_sem]) ?_
 refine (caught_panicking ⟨w.heap.size, 0, none⟩ 0 11 _ (cell_at he 0) (melt_at he 0)).mono ?_
 rintro e u' w'' ⟨rfl, rfl, rfl⟩
 have hr : (World.setCell _ ⟨w.heap.size, 0, none⟩ (Value.int .i64 11)).cell? ⟨w.heap.size, 0, none⟩ = some (.int .i64 11) := cell_at (set_same he 0 (.int .i64 11)) 0
 simp [Leaves, settle, results, Tryz.results10, go_sem, hr]
 exact T1.out.andSet _ (.inr (Nat.le_refl _))
set_option maxRecDepth 100000 in
set_option maxHeartbeats 1000000 in
theorem create_full (bp : Nat) (m : Mach) (x : Pt) (Lv : Nat → Prop) (s : ByteArray) (w : World) (pp0 : PP w bp m x Lv) (hn : nameOk s.data.toList = true) (hs : s.size ≤ maxLen) (hl : look m.now s.data.toList = none) (h200 : 200 ≤ m.now.length) :
  Calls Tryz.prog 10 #[.pointer (some ⟨bp, 0, none⟩), .string s] w fun e w' => e = .returned (.int .i64 12) ∧ Tch (fun _ => False) w w' := by
 have hmay := Lib.hid (fun W => may_calls s W)
 have pp := Lib.hid pp0
 clear pp0
 have hlt : decide ((m.now.length : Int) < 200) = false := decide_eq_false (by omega)
 go_enter_defers Tryz.func10, Tryz.ntmps10
 go_wp2_with (first
  | (go_at_call 35; refine (hmay.out _).mono ?_; rintro e w1 ⟨rfl, hb1⟩; rw [hn]; have T1 := Lib.hid (show Tch (fun _ => False) w w1 from (Tch.alloc _ w _).andBelow hb1); have HE := Lib.hid (e_at (Tch.of_below hb1)); have PP1 := Lib.hid (pp.out.tch T1.out); have c1 : w1.cell? ⟨bp, 1, none⟩ = some (.map (some x.bn)) := cell_at PP1.out.top 1; have hrun := dir_lookup PP1.out.now s hs; rw [hl] at hrun; simp only at hrun; clear hb1)
  | (go_at_call 34; first | (with_reducible refine (check_ok _ _).mono ?_; rintro e w2 ⟨rfl, rfl⟩) | (with_reducible refine (check_no _ _).mono ?_; rintro e w2 ⟨rfl, rfl⟩) | (rw [hlt]; with_reducible refine (check_ok _ _).mono ?_; rintro e w2 ⟨rfl, rfl⟩) | (rw [hlt]; with_reducible refine (check_no _ _).mono ?_; rintro e w2 ⟨rfl, rfl⟩))
  | (at_len; refine wpList_len_own _ rfl _ 77 rfl 9 76 Tryz.underlying77 rawE x.bn m.now.length (dirD x.K m.now) rfl PP1.out.now ?_; rw [dir_size])
  | go_in)
 have he := HE.out
 refine leaves_cons (f := 33) (args := #[.pointer (some ⟨w.heap.size, 0, none⟩)]) (by simp) (by simp [go_sem]) ?_
 refine (caught_panicking ⟨w.heap.size, 0, none⟩ 0 12 _ (cell_at he 0) (melt_at he 0)).mono ?_
 rintro e u' w'' ⟨rfl, rfl, rfl⟩
 have hr : (World.setCell _ ⟨w.heap.size, 0, none⟩ (Value.int .i64 12)).cell? ⟨w.heap.size, 0, none⟩ = some (.int .i64 12) := cell_at (set_same he 0 (.int .i64 12)) 0
 simp [Leaves, settle, results, Tryz.results10, go_sem, hr]
 exact T1.out.andSet _ (.inr (Nat.le_refl _))
set_option maxRecDepth 100000 in
set_option maxHeartbeats 1000000 in
theorem create_dead (bp : Nat) (m : Mach) (x : Pt) (Lv : Nat → Prop) (s : ByteArray) (w : World) (pp0 : PP w bp m x Lv) (hn : nameOk s.data.toList = true) (hs : s.size ≤ maxLen) (hl : look m.now s.data.toList = none) (h200 : m.now.length < 200) (hp : m.power = 0) :
  Calls Tryz.prog 10 #[.pointer (some ⟨bp, 0, none⟩), .string s] w fun e w' => e = .returned (.int .i64 13) ∧ Tch (fun _ => False) w w' := by
 have hmay := Lib.hid (fun W => may_calls s W)
 have pp := Lib.hid pp0
 clear pp0
 have hlt : decide ((m.now.length : Int) < 200) = true := decide_eq_true (by omega)
 go_enter_defers Tryz.func10, Tryz.ntmps10
 go_wp2_with (first
  | (go_at_call 35; refine (hmay.out _).mono ?_; rintro e w1 ⟨rfl, hb1⟩; rw [hn]; have T1 := Lib.hid (show Tch (fun _ => False) w w1 from (Tch.alloc _ w _).andBelow hb1); have HE := Lib.hid (e_at (Tch.of_below hb1)); have PP1 := Lib.hid (pp.out.tch T1.out); have c1 : w1.cell? ⟨bp, 1, none⟩ = some (.map (some x.bn)) := cell_at PP1.out.top 1; have hrun := dir_lookup PP1.out.now s hs; rw [hl] at hrun; simp only at hrun; clear hb1)
  | (go_at_call 34; first | (with_reducible refine (check_ok _ _).mono ?_; rintro e w2 ⟨rfl, rfl⟩) | (with_reducible refine (check_no _ _).mono ?_; rintro e w2 ⟨rfl, rfl⟩) | (rw [hlt]; with_reducible refine (check_ok _ _).mono ?_; rintro e w2 ⟨rfl, rfl⟩) | (rw [hlt]; with_reducible refine (check_no _ _).mono ?_; rintro e w2 ⟨rfl, rfl⟩))
  | (at_len; refine wpList_len_own _ rfl _ 77 rfl 9 76 Tryz.underlying77 rawE x.bn m.now.length (dirD x.K m.now) rfl PP1.out.now ?_; rw [dir_size])
  | (go_at_call 36; refine (spend_no bp _ _ _ _ _ (by rw [← hp]; exact PP1.out.top)).mono ?_; rintro e w3 ⟨rfl, rfl⟩)
  | go_in)
 have he := HE.out
 refine leaves_cons (f := 33) (args := #[.pointer (some ⟨w.heap.size, 0, none⟩)]) (by simp) (by simp [go_sem]) ?_
 refine (caught_panicking ⟨w.heap.size, 0, none⟩ 0 13 _ (cell_at he 0) (melt_at he 0)).mono ?_
 rintro e u' w'' ⟨rfl, rfl, rfl⟩
 have hr : (World.setCell _ ⟨w.heap.size, 0, none⟩ (Value.int .i64 13)).cell? ⟨w.heap.size, 0, none⟩ = some (.int .i64 13) := cell_at (set_same he 0 (.int .i64 13)) 0
 simp [Leaves, settle, results, Tryz.results10, go_sem, hr]
 exact T1.out.andSet _ (.inr (Nat.le_refl _))
set_option maxRecDepth 100000 in
set_option maxHeartbeats 1000000 in
theorem create_ok (bp : Nat) (m : Mach) (x : Pt) (Lv : Nat → Prop) (s : ByteArray) (w : World) (pp0 : PP w bp m x Lv) (hn : nameOk s.data.toList = true) (hs : s.size ≤ maxLen) (hl : look m.now s.data.toList = none) (h200 : m.now.length < 200) (hp : m.power ≠ 0) (hp1 : -1 ≤ m.power) (hp2 : m.power ≤ 9223372036854775807) (hs2 : s.size ≤ 100000000000000) (hsl : m.steps.length < 1000000000) :
  Calls Tryz.prog 10 #[.pointer (some ⟨bp, 0, none⟩), .string s] w fun e w' => e = .returned (.int .i64 0) ∧ Res w w' bp { m with files := m.files ++ [⟨[], []⟩], steps := m.steps ++ [(s.data.toList, some m.files.length)], power := spend m.power } x Lv := by
 have hmay := Lib.hid (fun W => may_calls s W)
 have pp := Lib.hid pp0
 clear pp0
 have hlt : decide ((m.now.length : Int) < 200) = true := decide_eq_true (by omega)
 go_enter_defers Tryz.func10, Tryz.ntmps10
 go_wp2_with (first
  | (go_at_call 35; refine (hmay.out _).mono ?_; rintro e w1 ⟨rfl, hb1⟩; rw [hn]; have T1 := Lib.hid (show Tch (fun _ => False) w w1 from (Tch.alloc _ w _).andBelow hb1); have HE := Lib.hid (e_at (Tch.of_below hb1)); have PP1 := Lib.hid (pp.out.tch T1.out); have c1 : w1.cell? ⟨bp, 1, none⟩ = some (.map (some x.bn)) := cell_at PP1.out.top 1; have hrun := dir_lookup PP1.out.now s hs; rw [hl] at hrun; simp only at hrun; clear hb1)
  | (go_at_call 34; first | (with_reducible refine (check_ok _ _).mono ?_; rintro e w2 ⟨rfl, rfl⟩) | (with_reducible refine (check_no _ _).mono ?_; rintro e w2 ⟨rfl, rfl⟩) | (rw [hlt]; with_reducible refine (check_ok _ _).mono ?_; rintro e w2 ⟨rfl, rfl⟩) | (rw [hlt]; with_reducible refine (check_no _ _).mono ?_; rintro e w2 ⟨rfl, rfl⟩))
  | (at_len; refine wpList_len_own _ rfl _ 77 rfl 9 76 Tryz.underlying77 rawE x.bn m.now.length (dirD x.K m.now) rfl PP1.out.now ?_; rw [dir_size])
  | (go_at_call 36; refine (spend_ok bp _ _ _ _ _ _ PP1.out.top hp hp1 hp2).mono ?_; rintro e w3 ⟨rfl, rfl⟩; have HGO := Lib.hid (create_go PP1.out (spend m.power) s hs2 (by omega) hsl))
  | (go_at_call 37; refine HGO.out.mono ?_; rintro e w4 ⟨rfl, hres⟩; have HRES := Lib.hid hres; have he4 : w4.heap[w.heap.size]? = some (eC 0) := (by obtain ⟨_, _, _, ht, _⟩ := hres; exact ht.keep HE.out (fun hf => by have := pp.out.lt hf; omega)); have ce4 : w4.cell? ⟨w.heap.size, 0, none⟩ = some (.int .i64 0) := cell_at he4 0; have fe4 : w4.frozen? ⟨w.heap.size, 0, none⟩ = false := melt_at he4 0; clear hres)
  | go_in)
 refine leaves_cons (f := 33) (args := #[.pointer (some ⟨w.heap.size, 0, none⟩)]) (by simp) (by simp [go_sem]) ?_
 refine (caught_idle ⟨w.heap.size, 0, none⟩ _).mono ?_
 rintro e u' w'' ⟨rfl, rfl, rfl⟩
 have hr : (World.setCell _ ⟨w.heap.size, 0, none⟩ (Value.int .i64 0)).cell? ⟨w.heap.size, 0, none⟩ = some (.int .i64 0) := cell_at (set_same he4 0 (.int .i64 0)) 0
 simp [Leaves, settle, results, Tryz.results10, go_sem, hr]
 exact (HRES.out.ahead T1.out).store (Nat.le_refl _) ⟨0, he4⟩ _ 0
/-- Create, whatever the plate. -/
theorem Create_calls {C : Nat} (bp : Nat) (m : Mach) (F : Nat → Prop) (s : ByteArray) (w : World) (hP : Plate w bp m F) (hi : Inv C m) (hC : C ≤ 100000000) (hs : s.size ≤ 100000000000000) :
  Calls Tryz.prog 10 #[.pointer (some ⟨bp, 0, none⟩), .string s] w fun e w' => e = .returned (.int .i64 (create m s.data.toList).1) ∧ Plate w' bp (create m s.data.toList).2 (grow F w w') ∧ Tch F w w' := by
 obtain ⟨x, Lv, pp, hF⟩ := hP
 have hs' : s.size ≤ maxLen := by unfold maxLen; omega
 have hlen := hi.now_len
 have hst := hi.count
 have fin : ∀ n : Int, create m s.data.toList = (n, m) → ∀ e w', e = Ending.returned (.int .i64 n) ∧ Tch (fun _ => False) w w' → e = .returned (.int .i64 (create m s.data.toList).1) ∧ Plate w' bp (create m s.data.toList).2 (grow F w w') ∧ Tch F w w' := by
  rintro n hc e w' ⟨he, ht⟩
  rw [hc]
  exact ⟨he, (Res.same pp ht).plate hF⟩
 cases hn : nameOk s.data.toList with
 | false => exact (create_bad bp s w hn).mono (fin 1 (by unfold create; rw [if_pos hn]))
 | true =>
  have hn' : ¬ nameOk s.data.toList = false := by rw [hn]; decide
  cases hl : m.find s.data.toList with
  | some k => exact (create_twice bp m x Lv s w pp hn hs' k hl).mono (fin 11 (by unfold create; rw [if_neg hn', if_pos (by rw [hl]; rfl)]))
  | none =>
   have hl' : ¬ (m.find s.data.toList).isSome = true := by rw [hl]; decide
   by_cases h200 : 200 ≤ m.now.length
   ·exact (create_full bp m x Lv s w pp hn hs' hl h200).mono (fin 12 (by unfold create; rw [if_neg hn', if_neg hl', if_pos h200]))
   ·by_cases hp : m.power = 0
    ·exact (create_dead bp m x Lv s w pp hn hs' hl (by omega) hp).mono (fin 13 (by unfold create; rw [if_neg hn', if_neg hl', if_neg h200, if_pos hp]))
    ·refine (create_ok bp m x Lv s w pp hn hs' hl (by omega) hp hi.pow0 hi.pow1 hs (by omega)).mono ?_
     rintro e w' ⟨he, hr⟩
     have hc : create m s.data.toList = (0, { m with files := m.files ++ [⟨[], []⟩], steps := m.steps ++ [(s.data.toList, some m.files.length)], power := spend m.power }) := by unfold create; rw [if_neg hn', if_neg hl', if_neg h200, if_neg hp]
     rw [hc]
     exact ⟨he, hr.plate hF⟩
/-- The bytes of those files that are no longer to come. -/
def usedF (fs : List Fil) (d : Dir) (left : Lit → Bool) : Nat := used fs (d.filter fun p => !left (.string p.1))
theorem usedF_congr (fs : List Fil) {d : Dir} {l l' : Lit → Bool} (h : ∀ p ∈ d, l (.string p.1) = l' (.string p.1)) : usedF fs d l = usedF fs d l' := by
 unfold usedF
 rw [List.filter_congr (fun p hp => by rw [h p hp])]
theorem usedF_start (fs : List Fil) (K : Nat → Addr) (d : Dir) : usedF fs d (Maps.has (dirD K d)) = 0 := by
 have : (d.filter fun p => !Maps.has (dirD K d) (.string p.1)) = [] := by
  rw [List.filter_eq_nil_iff]
  intro p hp
  have : Maps.has (dirD K d) (.string p.1) = true := by
   unfold dirD
   rw [has_eq]
   exact List.any_eq_true.2 ⟨ent K p, List.mem_map.2 ⟨p, hp, rfl⟩, by simp [ent, Lit.sameKey]⟩
  simp [this]
 unfold usedF
 rw [this]
 rfl
theorem usedF_end (fs : List Fil) (d : Dir) {left : Lit → Bool} (h : ∀ kl, left kl = false) : usedF fs d left = used fs d := by
 unfold usedF
 rw [List.filter_eq_self.2 (fun p _ => by rw [h]; rfl)]
theorem usedF_step (fs : List Fil) : ∀ {d : Dir}, Sorted d → ∀ {left : Lit → Bool} {s : L} {k : Nat}, (s, k) ∈ d → left (.string s) = true →
  usedF fs d (fun z => left z && !z.sameKey (.string s)) = usedF fs d left + (fileAt fs k).all.length
 | p :: d, hs, left, s, k, hm, hl => by
  have h1 := List.pairwise_cons.1 hs
  have cons : ∀ l : Lit → Bool, usedF fs (p :: d) l = (if l (.string p.1) = true then 0 else (fileAt fs p.2).all.length) + usedF fs d l := by
   intro l
   unfold usedF
   cases hl : l (.string p.1) with
   | true => rw [List.filter_cons_of_neg (by simp [hl])]; simp
   | false => rw [List.filter_cons_of_pos (by simp [hl]), used_cons]; simp
  rw [cons, cons]
  rcases List.mem_cons.1 hm with rfl | hm
  ·have e : usedF fs d (fun z => left z && !z.sameKey (.string s)) = usedF fs d left := usedF_congr fs (fun q hq => by
    have : q.1 ≠ s := fun e => before_ne (h1.1 q hq) e.symm
    have e2 : (Lit.string q.1).sameKey (.string s) = false := by rw [same_str]; simpa using this
    show (left (.string q.1) && !(Lit.string q.1).sameKey (.string s)) = _
    rw [e2]; simp)
   rw [e]
   have e3 : (Lit.string s).sameKey (.string s) = true := by rw [same_str]; simp
   simp only [e3, hl]
   simp
   omega
  ·have hne : p.1 ≠ s := before_ne (h1.1 _ hm)
   have e2 : (Lit.string p.1).sameKey (.string s) = false := by rw [same_str]; simpa using hne
   rw [usedF_step fs h1.2 hm hl]
   simp only [e2]
   simp
   omega
theorem usedF_le (fs : List Fil) (left : Lit → Bool) : ∀ d : Dir, usedF fs d left ≤ used fs d
 | [] => by simp [usedF, used]
 | p :: d => by
  have ih := usedF_le fs left d
  unfold usedF at ih ⊢
  rw [used_cons]
  cases hl : left (.string p.1) with
  | true => rw [List.filter_cons_of_neg (by simp [hl])]; omega
  | false => rw [List.filter_cons_of_pos (by simp [hl]), used_cons]; omega
theorem string_key_inv {key : Value} {kl : Lit} (h : keyOf Tryz.prog 9 key = some kl) : ∃ x : ByteArray, key = .string x ∧ kl = .string x.data.toList := by
 cases key <;> simp [keyOf, Tryz.underlying9, mapKey] at h
 obtain ⟨_, rfl⟩ := h
 exact ⟨_, rfl, rfl⟩
set_option maxRecDepth 100000 in
set_option maxHeartbeats 2000000 in
theorem used_calls {C : Nat} (bp : Nat) (m : Mach) (x : Pt) (Lv : Nat → Prop) (w : World) (pp0 : PP w bp m x Lv) (hi : Inv C m) (hC : C ≤ 100000000) :
  Calls Tryz.prog 39 #[.pointer (some ⟨bp, 0, none⟩)] w fun e w' => e = .returned (.int .i64 (used m.files m.now)) ∧ Tch (fun _ => False) w w' := by
 have pp := Lib.hid pp0
 have c1 : w.cell? ⟨bp, 1, none⟩ = some (.map (some x.bn)) := cell_at pp0.top 1
 have hu : used m.files m.now ≤ 500000000000000 := by
  have h1 := used_le hi m.now hi.now_key
  have h2 := hi.now_len
  omega
 clear pp0
 go_enter Tryz.func39, Tryz.ntmps39
 go_wp2_with (first
  | (at_range; refine wpList_range_own _ rfl _ 77 rfl 9 76 keyS Tryz.underlying77 rawE x.bn m.now.length (dirD x.K m.now) rfl pp.out.now ?_; intro w0 hrg0 hg0 hs0)
  | go_in)
 go_frame
 go_loopw [3, 5] (fun v3 _ wr => ∃ (left : Lit → Bool) (cnt : Nat), v3 = Value.int .i64 (usedF m.files m.now left) ∧ wr.ranges Tryz.prog 9 rawE x.bn w.heap.size m.now.length (dirD x.K m.now) left cnt ∧ Tch (fun _ => False) w wr)
  (fun _ _ wr => wr.rangeLeft x.bn w.heap.size)
 case atStart => exact ⟨_, _, by rw [usedF_start]; rfl, hrg0, .of_grown hg0 (fun k hk => by cases hk)⟩
 case round =>
  obtain ⟨left, cnt, rfl, hrg, ht⟩ := hrel
  go_wp2_with (first
   | (at_next; refine wpList_next_ranges _ rfl _ rfl 9 keyS rawE Value.string Value.pointer (fun key kl h => by obtain ⟨y, e, _⟩ := string_key_inv h; exact ⟨y, e⟩) (fun v y h => by obtain ⟨q, e, _⟩ := rawE_inv h; exact ⟨q, e⟩) x.bn w.heap.size m.now.length _ _ _ rfl hrg ?_ ?_)
   | go_in)
  ·intro _ hl0
   go_wp2
   go_ret
   refine ⟨?_, ht⟩
   rw [usedF_end m.files m.now hl0]
   rfl
  ·intro s q kl y0 yp w1 cnt1 hkey hlx hy hat hrg1 hlt hg1 hs1 hen
   obtain ⟨s', es, rfl⟩ := string_key_inv hkey
   obtain rfl : s = s' := by injection es
   have hy0 : y0 = .held (.pointer q) := by
    have := congrArg Prod.fst (Option.some.inj hy)
    exact this.symm
   have hat0 := hat (.held (.pointer none))
   have hat1 := hat .nil
   rw [dir_at, hy0] at hat0 hat1
   obtain ⟨k, hk, hq⟩ : ∃ k, look m.now s.data.toList = some k ∧ q = some (x.K k) := by
    cases hl : look m.now s.data.toList with
    | none => rw [hl] at hat1; cases hat1
    | some k =>
     rw [hl] at hat0
     simp [ptrK] at hat0
     exact ⟨k, rfl, hat0.symm⟩
   subst hq
   have hmem := look_mem hk
   have ht1 : Tch (fun _ => False) w w1 := ht.andGrown hg1 (fun j hj => .inr (by have := Option.some.inj hj; omega))
   have pp1 := pp.out.tch ht1
   have hlv := pp1.live k (live_now hmem)
   obtain ⟨A, c, hbv⟩ := row_slice (pp1.bytes k hlv)
   have f0 : w1.cell? ⟨x.fb k, 0, none⟩ = some (.slice A (fileAt m.files k).all.length c) := by rw [← hbv]; exact cell_at (pp1.file k hlv) 0
   have hstep := usedF_step m.files hi.now_sorted hmem hlx
   have hle := usedF_le m.files (fun z => left z && !z.sameKey (.string s.data.toList)) m.now
   have hw : wrap64 ((usedF m.files m.now left : Int) + ((fileAt m.files k).all.length : Int)) = ((usedF m.files m.now (fun z => left z && !z.sameKey (.string s.data.toList)) : Nat) : Int) := by
    rw [hstep] at hle ⊢
    unfold wrap64
    omega
   have hen' : (Instr.entry (.pointer (some ⟨w.heap.size, 0, none⟩))).run Tryz.prog w1 = .ok (.tuple #[.string s, .pointer (some ⟨x.fb k, 0, none⟩)]) w1 := hen
   show wpList Tryz.prog _ _ _ { tmps := _, defers := [] } w1
   have HRG := Lib.hid hrg1
   have HRG0 := Lib.hid hrg
   have HT := Lib.hid ht1
   clear hrg1 hrg ht1 pp1 hen hy hat hat0 hat1 hkey hstep hg1 ht
   go_wp2
   go_roundw
   case rel => exact ⟨_, cnt1, by rw [hw], HRG.out, HT.out⟩
   case measure => rw [HRG.out.left_eq, HRG0.out.left_eq]; exact hlt
section
variable {w w' w1 w3 w4 : World} {bp : Nat} {m m' : Mach} {x : Pt} {Lv : Nat → Prop} {F : Nat → Prop}
theorem Res.after (ht : Tch (foot bp x Lv) w w3) (h : Res w3 w4 bp m' x Lv) : Res w w4 bp m' x Lv := by
 obtain ⟨x', Lv', pp, ht', hf⟩ := h
 exact ⟨x', Lv', pp, ht.trans ht' (fun k hk => .inl hk), fun i hi => (hf i hi).imp id (fun h => Nat.le_trans ht.size h)⟩
theorem Res.now (pp : PP w' bp m' x Lv) (ht : Tch (foot bp x Lv) w w') : Res w w' bp m' x Lv := ⟨x, Lv, pp, ht, fun _ h => .inl h⟩
theorem p_spend_ok (pp : PP w bp m x Lv) (h0 : m.power ≠ 0) (h1 : -1 ≤ m.power) (h2 : m.power ≤ 9223372036854775807) :
  Calls Tryz.prog 36 #[.pointer (some ⟨bp, 0, none⟩)] w fun e w' => e = .returned (.tuple #[]) ∧ PP w' bp { m with power := spend m.power } x Lv ∧ Tch (fun i => i = bp) w w' := by
 refine (spend_ok bp _ _ _ _ _ _ pp.top h0 h1 h2).mono ?_
 rintro e w' ⟨he, rfl⟩
 exact ⟨he, pp.power _, Tch.setCell w _ rfl⟩
theorem p_spend_no (pp : PP w bp m x Lv) (h0 : m.power = 0) :
  Calls Tryz.prog 36 #[.pointer (some ⟨bp, 0, none⟩)] w fun e w' => e = .panicked (chain 13) ∧ w' = w :=
 spend_no bp _ _ _ m.room w (by rw [← h0]; exact pp.top)
theorem p_file_ok (pp : PP w bp m x Lv) (s : ByteArray) (hs : s.size ≤ maxLen) {k : Nat} (hl : look m.now s.data.toList = some k) :
  Calls Tryz.prog 38 #[.pointer (some ⟨bp, 0, none⟩), .string s] w fun e w' => e = .returned (.pointer (some ⟨x.fb k, 0, none⟩)) ∧ w' = w :=
 file_ok bp x.bn _ _ _ _ x.K m.now s k w pp.top pp.now hs hl
theorem p_file_no (pp : PP w bp m x Lv) (s : ByteArray) (hs : s.size ≤ maxLen) (hl : look m.now s.data.toList = none) :
  Calls Tryz.prog 38 #[.pointer (some ⟨bp, 0, none⟩), .string s] w fun e w' => e = .panicked (chain 10) ∧ w' = w :=
 file_no bp x.bn _ _ _ _ x.K m.now s w pp.top pp.now hs hl
/-- What a walk asks of a file. -/
theorem PP.cells (pp : PP w bp m x Lv) {k : Nat} (hk : Lv k) : ∃ A c, x.bv k = .slice A (fileAt m.files k).all.length c ∧ w.cell? ⟨x.fb k, 0, none⟩ = some (.slice A (fileAt m.files k).all.length c) ∧ w.cell? ⟨x.fb k, 1, none⟩ = some (.int .i64 ((fileAt m.files k).safe.length : Nat)) ∧ w.frozen? ⟨x.fb k, 0, none⟩ = false ∧ w.frozen? ⟨x.fb k, 1, none⟩ = false := by
 obtain ⟨A, c, hbv⟩ := row_slice (pp.bytes k hk)
 exact ⟨A, c, hbv, by rw [← hbv]; exact cell_at (pp.file k hk) 0, cell_at (pp.file k hk) 1, melt_at (pp.file k hk) 0, melt_at (pp.file k hk) 1⟩
theorem sync_done (pp : PP w bp m x Lv) {k : Nat} (hk : Lv k) : Res w (w.setCell ⟨x.fb k, 1, none⟩ (.int .i64 ((fileAt m.files k).all.length : Nat))) bp { m with files := m.files.set k ⟨(fileAt m.files k).all, []⟩ } x Lv := by
 have hkf := pp.file k hk
 obtain ⟨pp', hf⟩ := pp.file_new (w' := w.setCell ⟨x.fb k, 1, none⟩ (.int .i64 ((fileAt m.files k).all.length : Nat))) hk (x.bv k) ⟨(fileAt m.files k).all, []⟩ (fun i _ h1 _ => set_other 1 _ h1) (set_same hkf 1 _)
  (by
   have e : (⟨(fileAt m.files k).all, []⟩ : Fil).all = (fileAt m.files k).all := List.append_nil _
   rw [e]
   refine own_move (pp.bytes k hk) (fun i hi => set_other 1 _ ?_)
   obtain ⟨_, e2⟩ := row_block (pp.bytes k hk) hi
   exact cells_ne e2 hkf (by decide)) (fun b hb => .inl hb)
 exact ⟨_, Lv, pp', Tch.setCell w _ (.inr (.inr (.inr (.inr ⟨k, hk, .inl rfl⟩)))), hf⟩
theorem write_done (pp : PP w bp m x Lv) {k : Nat} (hk : Lv k) (s : ByteArray) (v' : Value) (hrow : w1.ownsRow 0 5 1 v' ((fileAt m.files k).all.length + s.size) (Lib.byteCells (fileAt m.files k).all ++ Lib.strCells s)) (hg : w.grownBy w1 (x.bv k).ownBlock) (hloc : v'.ownBlock = (x.bv k).ownBlock ∨ v'.ownBlock = some w.heap.size) :
  Res w (w1.setCell ⟨x.fb k, 0, none⟩ v') bp { m with files := m.files.set k ⟨(fileAt m.files k).safe, (fileAt m.files k).loose ++ s.data.toList⟩ } x Lv := by
 have hkf := pp.file k hk
 have hne : (x.bv k).ownBlock ≠ some (x.fb k) := by
  intro e
  obtain ⟨_, e2⟩ := row_block (pp.bytes k hk) e
  exact cells_ne hkf e2 (by decide) rfl
 have hkf1 := (hg.block (x.fb k) (blk_lt hkf) (fun e => hne e.symm)).trans hkf
 have e : (⟨(fileAt m.files k).safe, (fileAt m.files k).loose ++ s.data.toList⟩ : Fil).all = (fileAt m.files k).all ++ s.data.toList := (List.append_assoc _ _ _).symm
 obtain ⟨pp', hf⟩ := pp.file_new (w' := w1.setCell ⟨x.fb k, 0, none⟩ v') hk v' ⟨(fileAt m.files k).safe, (fileAt m.files k).loose ++ s.data.toList⟩ (fun i hi h1 h2 => (set_other 0 _ h1).trans (hg.block i hi (fun e => h2 e.symm))) (set_same hkf1 0 _)
  (by
   rw [e]
   have e3 : Lib.byteCells (fileAt m.files k).all ++ Lib.strCells s = Lib.byteCells ((fileAt m.files k).all ++ s.data.toList) := by simp [Lib.byteCells, Lib.strCells]
   have e4 : (fileAt m.files k).all.length + s.size = ((fileAt m.files k).all ++ s.data.toList).length := by rw [List.length_append, Lib.size_eq]
   rw [← e3, ← e4]
   refine own_move hrow (fun i hi => set_other 0 _ ?_)
   obtain ⟨_, e2⟩ := row_block hrow hi
   exact cells_ne e2 hkf1 (by decide)) (fun b hb => by
   rcases hloc with h | h
   ·exact .inl (h ▸ hb)
   ·rw [h] at hb
    exact .inr (by have := Option.some.inj hb; omega))
 refine ⟨_, Lv, pp', ?_, hf⟩
 exact (Tch.of_grown hg (fun i hi => .inl (.inr (.inr (.inr (.inr ⟨k, hk, .inr hi.symm.symm⟩)))))).andSet _ (.inl (.inr (.inr (.inr (.inr ⟨k, hk, .inl rfl⟩)))))
end
end Go.Proofs.YtfpbpakgajddnaaGreatDoor.Pl
/- PlY -/
namespace Go.Proofs.YtfpbpakgajddnaaGreatDoor.Pl
open Go Go.RowKit Go.Maps Go.Proofs.YtfpbpakgajddnaaGreatDoorW.PrintWords
set_option linter.unusedVariables false
set_option linter.unusedSimpArgs false
set_option maxRecDepth 100000 in
set_option maxHeartbeats 2000000 in
theorem syncW_none {bp : Nat} {m : Mach} {x : Pt} {Lv : Nat → Prop} (s : ByteArray) {w : World} (pp0 : PP w bp m x Lv) (hs : s.size ≤ maxLen) (hl : look m.now s.data.toList = none) :
  Calls Tryz.prog 106 #[.pointer (some ⟨bp, 0, none⟩), .string s] w fun e w' => e = .returned (.int .i64 10) ∧ Tch (fun _ => False) w w' := by
 have T1 : Tch (fun _ => False) w (w.alloc (eC 0)) := Tch.alloc _ w _
 have PP0 := Lib.hid (pp0.tch T1)
 have HLT := Lib.hid (fun i (hi : foot bp x Lv i) => pp0.lt hi)
 have he := alloc_new w (eC 0)
 clear pp0
 go_enter_defers Tryz.func106, Tryz.ntmps106
 go_wp2_with (first
  | (go_at_call 38; refine (p_file_no PP0.out s hs hl).mono ?_; rintro e w2 ⟨rfl, rfl⟩)
  | go_in)
 refine leaves_cons (f := 33) (args := #[.pointer (some ⟨w.heap.size, 0, none⟩)]) (by simp) (by simp [go_sem]) ?_
 refine (caught_panicking ⟨w.heap.size, 0, none⟩ 0 10 _ (cell_at he 0) (melt_at he 0)).mono ?_
 rintro e u' w'' ⟨rfl, rfl, rfl⟩
 have hr : (World.setCell _ ⟨w.heap.size, 0, none⟩ (Value.int .i64 10)).cell? ⟨w.heap.size, 0, none⟩ = some (.int .i64 10) := cell_at (set_same he 0 (.int .i64 10)) 0
 simp [Leaves, settle, results, Tryz.results106, go_sem, hr]
 exact T1.andSet _ (.inr (Nat.le_refl _))
set_option maxRecDepth 100000 in
set_option maxHeartbeats 2000000 in
theorem syncW_dead {bp : Nat} {m : Mach} {x : Pt} {Lv : Nat → Prop} (s : ByteArray) (k : Nat) {w : World} (pp0 : PP w bp m x Lv) (hs : s.size ≤ maxLen) (hl : look m.now s.data.toList = some k) (hp : m.power = 0) :
  Calls Tryz.prog 106 #[.pointer (some ⟨bp, 0, none⟩), .string s] w fun e w' => e = .returned (.int .i64 13) ∧ Tch (fun _ => False) w w' := by
 have T1 : Tch (fun _ => False) w (w.alloc (eC 0)) := Tch.alloc _ w _
 have PP0 := Lib.hid (pp0.tch T1)
 have HLT := Lib.hid (fun i (hi : foot bp x Lv i) => pp0.lt hi)
 have he := alloc_new w (eC 0)
 clear pp0
 go_enter_defers Tryz.func106, Tryz.ntmps106
 go_wp2_with (first
  | (go_at_call 38; refine (p_file_ok PP0.out s hs hl).mono ?_; rintro e w2 ⟨rfl, rfl⟩)
  | (go_at_call 36; refine (p_spend_no PP0.out hp).mono ?_; rintro e w3 ⟨rfl, rfl⟩)
  | go_in)
 refine leaves_cons (f := 33) (args := #[.pointer (some ⟨w.heap.size, 0, none⟩)]) (by simp) (by simp [go_sem]) ?_
 refine (caught_panicking ⟨w.heap.size, 0, none⟩ 0 13 _ (cell_at he 0) (melt_at he 0)).mono ?_
 rintro e u' w'' ⟨rfl, rfl, rfl⟩
 have hr : (World.setCell _ ⟨w.heap.size, 0, none⟩ (Value.int .i64 13)).cell? ⟨w.heap.size, 0, none⟩ = some (.int .i64 13) := cell_at (set_same he 0 (.int .i64 13)) 0
 simp [Leaves, settle, results, Tryz.results106, go_sem, hr]
 exact T1.andSet _ (.inr (Nat.le_refl _))
set_option maxRecDepth 100000 in
set_option maxHeartbeats 2000000 in
theorem syncW_ok {bp : Nat} {m : Mach} {x : Pt} {Lv : Nat → Prop} (s : ByteArray) (k : Nat) {w : World} (pp0 : PP w bp m x Lv) (hs : s.size ≤ maxLen) (hl : look m.now s.data.toList = some k) (hlv : ∀ j, (s.data.toList, j) ∈ m.now → Lv j) (hp : m.power ≠ 0) (hp1 : -1 ≤ m.power) (hp2 : m.power ≤ 9223372036854775807) :
  Calls Tryz.prog 106 #[.pointer (some ⟨bp, 0, none⟩), .string s] w fun e w' => e = .returned (.int .i64 0) ∧ Res w w' bp { m with files := m.files.set k ⟨(fileAt m.files k).all, []⟩, power := spend m.power } x Lv := by
 have T1 : Tch (fun _ => False) w (w.alloc (eC 0)) := Tch.alloc _ w _
 have PP0 := Lib.hid (pp0.tch T1)
 have HLT := Lib.hid (fun i (hi : foot bp x Lv i) => pp0.lt hi)
 have he := alloc_new w (eC 0)
 clear pp0
 go_enter_defers Tryz.func106, Tryz.ntmps106
 go_wp2_with (first
  | (go_at_call 38; refine (p_file_ok PP0.out s hs hl).mono ?_; rintro e w2 ⟨rfl, rfl⟩)
  | (go_at_call 36; refine (p_spend_ok PP0.out hp hp1 hp2).mono ?_; rintro e w3 ⟨rfl, pp3, ht3⟩; have PP3 := Lib.hid pp3; have T3 := Lib.hid (show Tch (foot bp x Lv) w w3 from (T1.mono (fun _ h _ => h.elim)).trans ht3 (fun k hk => .inl (hk ▸ .inl rfl))); have he3 : w3.heap[w.heap.size]? = some (eC 0) := ht3.keep he (fun e => by have := HLT.out bp (.inl rfl); omega); obtain ⟨A, c, _, f0, f1, z0, z1⟩ := pp3.cells (hlv k (look_mem hl)); have nb : ¬ x.fb k = w.heap.size := (by have := HLT.out _ (.inr (.inr (.inr (.inr ⟨k, hlv k (look_mem hl), .inl rfl⟩)))); omega); have nb2 : ¬ w.heap.size = x.fb k := (fun e => nb e.symm); have ce3 : w3.cell? ⟨w.heap.size, 0, none⟩ = some (.int .i64 0) := cell_at he3 0; have fe3 : w3.frozen? ⟨w.heap.size, 0, none⟩ = false := melt_at he3 0; clear pp3 ht3)
  | go_in)
 have he : (w3.setCell ⟨x.fb k, 1, none⟩ (.int .i64 ((fileAt m.files k).all.length : Nat))).heap[w.heap.size]? = some (eC 0) := (set_other 1 _ nb2).trans he3
 refine leaves_cons (f := 33) (args := #[.pointer (some ⟨w.heap.size, 0, none⟩)]) (by simp) (by simp [go_sem]) ?_
 refine (caught_idle ⟨w.heap.size, 0, none⟩ _).mono ?_
 rintro e u' w'' ⟨rfl, rfl, rfl⟩
 have hr : (World.setCell _ ⟨w.heap.size, 0, none⟩ (Value.int .i64 0)).cell? ⟨w.heap.size, 0, none⟩ = some (.int .i64 0) := cell_at (set_same he 0 (.int .i64 0)) 0
 simp [Leaves, settle, results, Tryz.results106, go_sem, hr]
 exact (Res.after T3.out (sync_done PP3.out (hlv k (look_mem hl)))).store (Nat.le_refl _) ⟨0, he⟩ _ 0
set_option maxRecDepth 100000 in
set_option maxHeartbeats 2000000 in
theorem removeW_none {bp : Nat} {m : Mach} {x : Pt} {Lv : Nat → Prop} (s : ByteArray) {w : World} (pp0 : PP w bp m x Lv) (hs : s.size ≤ maxLen) (hl : look m.now s.data.toList = none) :
  Calls Tryz.prog 97 #[.pointer (some ⟨bp, 0, none⟩), .string s] w fun e w' => e = .returned (.int .i64 10) ∧ Tch (fun _ => False) w w' := by
 have T1 : Tch (fun _ => False) w (w.alloc (eC 0)) := Tch.alloc _ w _
 have PP0 := Lib.hid (pp0.tch T1)
 have HLT := Lib.hid (fun i (hi : foot bp x Lv i) => pp0.lt hi)
 have he := alloc_new w (eC 0)
 clear pp0
 go_enter_defers Tryz.func97, Tryz.ntmps97
 go_wp2_with (first
  | (go_at_call 38; refine (p_file_no PP0.out s hs hl).mono ?_; rintro e w2 ⟨rfl, rfl⟩)
  | go_in)
 refine leaves_cons (f := 33) (args := #[.pointer (some ⟨w.heap.size, 0, none⟩)]) (by simp) (by simp [go_sem]) ?_
 refine (caught_panicking ⟨w.heap.size, 0, none⟩ 0 10 _ (cell_at he 0) (melt_at he 0)).mono ?_
 rintro e u' w'' ⟨rfl, rfl, rfl⟩
 have hr : (World.setCell _ ⟨w.heap.size, 0, none⟩ (Value.int .i64 10)).cell? ⟨w.heap.size, 0, none⟩ = some (.int .i64 10) := cell_at (set_same he 0 (.int .i64 10)) 0
 simp [Leaves, settle, results, Tryz.results97, go_sem, hr]
 exact T1.andSet _ (.inr (Nat.le_refl _))
set_option maxRecDepth 100000 in
set_option maxHeartbeats 2000000 in
theorem removeW_dead {bp : Nat} {m : Mach} {x : Pt} {Lv : Nat → Prop} (s : ByteArray) (k : Nat) {w : World} (pp0 : PP w bp m x Lv) (hs : s.size ≤ maxLen) (hl : look m.now s.data.toList = some k) (hp : m.power = 0) :
  Calls Tryz.prog 97 #[.pointer (some ⟨bp, 0, none⟩), .string s] w fun e w' => e = .returned (.int .i64 13) ∧ Tch (fun _ => False) w w' := by
 have T1 : Tch (fun _ => False) w (w.alloc (eC 0)) := Tch.alloc _ w _
 have PP0 := Lib.hid (pp0.tch T1)
 have HLT := Lib.hid (fun i (hi : foot bp x Lv i) => pp0.lt hi)
 have he := alloc_new w (eC 0)
 clear pp0
 go_enter_defers Tryz.func97, Tryz.ntmps97
 go_wp2_with (first
  | (go_at_call 38; refine (p_file_ok PP0.out s hs hl).mono ?_; rintro e w2 ⟨rfl, rfl⟩)
  | (go_at_call 36; refine (p_spend_no PP0.out hp).mono ?_; rintro e w3 ⟨rfl, rfl⟩)
  | go_in)
 refine leaves_cons (f := 33) (args := #[.pointer (some ⟨w.heap.size, 0, none⟩)]) (by simp) (by simp [go_sem]) ?_
 refine (caught_panicking ⟨w.heap.size, 0, none⟩ 0 13 _ (cell_at he 0) (melt_at he 0)).mono ?_
 rintro e u' w'' ⟨rfl, rfl, rfl⟩
 have hr : (World.setCell _ ⟨w.heap.size, 0, none⟩ (Value.int .i64 13)).cell? ⟨w.heap.size, 0, none⟩ = some (.int .i64 13) := cell_at (set_same he 0 (.int .i64 13)) 0
 simp [Leaves, settle, results, Tryz.results97, go_sem, hr]
 exact T1.andSet _ (.inr (Nat.le_refl _))
theorem remove_go {w : World} {bp : Nat} {m : Mach} {x : Pt} {Lv : Nat → Prop} (pp : PP w bp m x Lv) (s : ByteArray) (hs : s.size ≤ 100000000000000) (hn : m.now.length < 100000000) (hl : m.steps.length < 1000000000) :
  Calls Tryz.prog 37 #[.pointer (some ⟨bp, 0, none⟩), .slice (some ⟨w.heap.size, 0, none⟩) 1 1] (w.alloc (.cells #[.string s, .pointer none] 85 (0, 0))) fun e w' => e = .returned (.tuple #[]) ∧ Res w w' bp { m with steps := m.steps ++ [(s.data.toList, none)] } x Lv := by
 have hst : stepC x.K (s.data.toList, none) = [.string s, .pointer none] := by unfold stepC ptrO; rw [mkB_self]
 refine (p_step1 (pp.alloc _) (s.data.toList, none) w.heap.size (by rw [hst]; exact alloc_new w _) (fun hf => by have := pp.lt hf; omega) (by show s.data.toList.length ≤ _; rw [← Lib.size_eq]; exact hs) (by show m.now.length < _; omega) hl (fun k hk => by cases hk)).mono ?_
 rintro e w' ⟨he, hr⟩
 exact ⟨he, hr.ahead (Tch.alloc _ w _)⟩
theorem rename_go {w : World} {bp : Nat} {m : Mach} {x : Pt} {Lv : Nat → Prop} (pp : PP w bp m x Lv) (s t : ByteArray) (k : Nat) (hk : Lv k) (hs : s.size ≤ 100000000000000) (ht : t.size ≤ 100000000000000) (hn : m.now.length < 100000000) (hl : m.steps.length < 1000000000) :
  Calls Tryz.prog 37 #[.pointer (some ⟨bp, 0, none⟩), .slice (some ⟨w.heap.size, 0, none⟩) 2 2] (w.alloc (.cells #[.string t, .pointer (some ⟨x.fb k, 0, none⟩), .string s, .pointer none] 85 (0, 0))) fun e w' => e = .returned (.tuple #[]) ∧ Res w w' bp { m with steps := m.steps ++ [(t.data.toList, some k), (s.data.toList, none)] } x Lv := by
 have hst : stepC x.K (t.data.toList, some k) ++ stepC x.K (s.data.toList, none) = [.string t, .pointer (some ⟨x.fb k, 0, none⟩), .string s, .pointer none] := by unfold stepC ptrO; rw [mkB_self, mkB_self]; rfl
 refine (p_step2 (pp.alloc _) (t.data.toList, some k) (s.data.toList, none) w.heap.size (by rw [hst]; exact alloc_new w _) (fun hf => by have := pp.lt hf; omega) (by show t.data.toList.length ≤ _; rw [← Lib.size_eq]; exact ht) (by show s.data.toList.length ≤ _; rw [← Lib.size_eq]; exact hs) hn hl (fun j hj => by
  rcases hj with hj | hj
  ·rw [← Option.some.inj hj]; exact hk
  ·cases hj)).mono ?_
 rintro e w' ⟨he, hr⟩
 exact ⟨he, hr.ahead (Tch.alloc _ w _)⟩
set_option maxRecDepth 100000 in
set_option maxHeartbeats 2000000 in
theorem removeW_ok {bp : Nat} {m : Mach} {x : Pt} {Lv : Nat → Prop} (s : ByteArray) (k : Nat) {w : World} (pp0 : PP w bp m x Lv) (hs : s.size ≤ maxLen) (hl : look m.now s.data.toList = some k) (hp : m.power ≠ 0) (hp1 : -1 ≤ m.power) (hp2 : m.power ≤ 9223372036854775807) (hs2 : s.size ≤ 100000000000000) (hn : m.now.length < 100000000) (hsl : m.steps.length < 1000000000) :
  Calls Tryz.prog 97 #[.pointer (some ⟨bp, 0, none⟩), .string s] w fun e w' => e = .returned (.int .i64 0) ∧ Res w w' bp { m with steps := m.steps ++ [(s.data.toList, none)], power := spend m.power } x Lv := by
 have T1 : Tch (fun _ => False) w (w.alloc (eC 0)) := Tch.alloc _ w _
 have PP0 := Lib.hid (pp0.tch T1)
 have HLT := Lib.hid (fun i (hi : foot bp x Lv i) => pp0.lt hi)
 have he := alloc_new w (eC 0)
 clear pp0
 go_enter_defers Tryz.func97, Tryz.ntmps97
 go_wp2_with (first
  | (go_at_call 38; refine (p_file_ok PP0.out s hs hl).mono ?_; rintro e w2 ⟨rfl, rfl⟩)
  | (go_at_call 36; refine (p_spend_ok PP0.out hp hp1 hp2).mono ?_; rintro e w3 ⟨rfl, pp3, ht3⟩; have PP3 := Lib.hid pp3; have T3 := Lib.hid (show Tch (foot bp x Lv) w w3 from (T1.mono (fun _ h _ => h.elim)).trans ht3 (fun k hk => .inl (hk ▸ .inl rfl))); have he3 : w3.heap[w.heap.size]? = some (eC 0) := ht3.keep he (fun e => by have := HLT.out bp (.inl rfl); omega); clear pp3 ht3)
  | (go_at_call 37; refine (remove_go PP3.out s hs2 hn hsl).mono ?_; rintro e w4 ⟨rfl, hres⟩; have HRES := Lib.hid hres; have he4 : w4.heap[w.heap.size]? = some (eC 0) := (by obtain ⟨_, _, _, ht, _⟩ := hres; exact ht.keep he3 (fun hf => by have := HLT.out _ hf; omega)); have ce4 : w4.cell? ⟨w.heap.size, 0, none⟩ = some (.int .i64 0) := cell_at he4 0; have fe4 : w4.frozen? ⟨w.heap.size, 0, none⟩ = false := melt_at he4 0; clear hres)
  | go_in)
 have he := he4
 refine leaves_cons (f := 33) (args := #[.pointer (some ⟨w.heap.size, 0, none⟩)]) (by simp) (by simp [go_sem]) ?_
 refine (caught_idle ⟨w.heap.size, 0, none⟩ _).mono ?_
 rintro e u' w'' ⟨rfl, rfl, rfl⟩
 have hr : (World.setCell _ ⟨w.heap.size, 0, none⟩ (Value.int .i64 0)).cell? ⟨w.heap.size, 0, none⟩ = some (.int .i64 0) := cell_at (set_same he 0 (.int .i64 0)) 0
 simp [Leaves, settle, results, Tryz.results97, go_sem, hr]
 exact (Res.after T3.out HRES.out).store (Nat.le_refl _) ⟨0, he4⟩ _ 0
set_option maxRecDepth 100000 in
set_option maxHeartbeats 2000000 in
theorem renameW_none {bp : Nat} {m : Mach} {x : Pt} {Lv : Nat → Prop} (s t : ByteArray) {w : World} (pp0 : PP w bp m x Lv) (hs : s.size ≤ maxLen) (hl : look m.now s.data.toList = none) :
  Calls Tryz.prog 66 #[.pointer (some ⟨bp, 0, none⟩), .string s, .string t] w fun e w' => e = .returned (.int .i64 10) ∧ Tch (fun _ => False) w w' := by
 have T1 : Tch (fun _ => False) w (w.alloc (eC 0)) := Tch.alloc _ w _
 have PP0 := Lib.hid (pp0.tch T1)
 have HLT := Lib.hid (fun i (hi : foot bp x Lv i) => pp0.lt hi)
 have he := alloc_new w (eC 0)
 clear pp0
 go_enter_defers Tryz.func66, Tryz.ntmps66
 go_wp2_with (first
  | (go_at_call 38; refine (p_file_no PP0.out s hs hl).mono ?_; rintro e w2 ⟨rfl, rfl⟩)
  | go_in)
 refine leaves_cons (f := 33) (args := #[.pointer (some ⟨w.heap.size, 0, none⟩)]) (by simp) (by simp [go_sem]) ?_
 refine (caught_panicking ⟨w.heap.size, 0, none⟩ 0 10 _ (cell_at he 0) (melt_at he 0)).mono ?_
 rintro e u' w'' ⟨rfl, rfl, rfl⟩
 have hr : (World.setCell _ ⟨w.heap.size, 0, none⟩ (Value.int .i64 10)).cell? ⟨w.heap.size, 0, none⟩ = some (.int .i64 10) := cell_at (set_same he 0 (.int .i64 10)) 0
 simp [Leaves, settle, results, Tryz.results66, go_sem, hr]
 exact T1.andSet _ (.inr (Nat.le_refl _))
set_option maxRecDepth 100000 in
set_option maxHeartbeats 2000000 in
theorem renameW_bad {bp : Nat} {m : Mach} {x : Pt} {Lv : Nat → Prop} (s t : ByteArray) (k : Nat) {w : World} (pp0 : PP w bp m x Lv) (hs : s.size ≤ maxLen) (hl : look m.now s.data.toList = some k) (hn1 : nameOk t.data.toList = false) :
  Calls Tryz.prog 66 #[.pointer (some ⟨bp, 0, none⟩), .string s, .string t] w fun e w' => e = .returned (.int .i64 1) ∧ Tch (fun _ => False) w w' := by
 have T1 : Tch (fun _ => False) w (w.alloc (eC 0)) := Tch.alloc _ w _
 have PP0 := Lib.hid (pp0.tch T1)
 have HLT := Lib.hid (fun i (hi : foot bp x Lv i) => pp0.lt hi)
 have he := alloc_new w (eC 0)
 clear pp0
 have hmay := Lib.hid (fun W => may_calls t W)
 go_enter_defers Tryz.func66, Tryz.ntmps66
 go_wp2_with (first
  | (go_at_call 38; refine (p_file_ok PP0.out s hs hl).mono ?_; rintro e w2 ⟨rfl, rfl⟩)
  | (go_at_call 35; refine (hmay.out _).mono ?_; rintro e w1 ⟨rfl, hb1⟩; rw [hn1]; have T2 := Lib.hid (show Tch (fun _ => False) w w1 from T1.andBelow hb1); have he1 := e_at (Tch.of_below hb1); have PP1 := Lib.hid (PP0.out.tch (Tch.of_below hb1)); clear hb1)
  | (go_at_call 34; first | (with_reducible refine (check_ok _ _).mono ?_; rintro e w2 ⟨rfl, rfl⟩) | (with_reducible refine (check_no _ _).mono ?_; rintro e w2 ⟨rfl, rfl⟩))
  | go_in)
 have he := he1
 refine leaves_cons (f := 33) (args := #[.pointer (some ⟨w.heap.size, 0, none⟩)]) (by simp) (by simp [go_sem]) ?_
 refine (caught_panicking ⟨w.heap.size, 0, none⟩ 0 1 _ (cell_at he 0) (melt_at he 0)).mono ?_
 rintro e u' w'' ⟨rfl, rfl, rfl⟩
 have hr : (World.setCell _ ⟨w.heap.size, 0, none⟩ (Value.int .i64 1)).cell? ⟨w.heap.size, 0, none⟩ = some (.int .i64 1) := cell_at (set_same he 0 (.int .i64 1)) 0
 simp [Leaves, settle, results, Tryz.results66, go_sem, hr]
 exact T2.out.andSet _ (.inr (Nat.le_refl _))
set_option maxRecDepth 100000 in
set_option maxHeartbeats 2000000 in
theorem renameW_dead {bp : Nat} {m : Mach} {x : Pt} {Lv : Nat → Prop} (s t : ByteArray) (k : Nat) {w : World} (pp0 : PP w bp m x Lv) (hs : s.size ≤ maxLen) (hl : look m.now s.data.toList = some k) (hn1 : nameOk t.data.toList = true) (hp : m.power = 0) :
  Calls Tryz.prog 66 #[.pointer (some ⟨bp, 0, none⟩), .string s, .string t] w fun e w' => e = .returned (.int .i64 13) ∧ Tch (fun _ => False) w w' := by
 have T1 : Tch (fun _ => False) w (w.alloc (eC 0)) := Tch.alloc _ w _
 have PP0 := Lib.hid (pp0.tch T1)
 have HLT := Lib.hid (fun i (hi : foot bp x Lv i) => pp0.lt hi)
 have he := alloc_new w (eC 0)
 clear pp0
 have hmay := Lib.hid (fun W => may_calls t W)
 go_enter_defers Tryz.func66, Tryz.ntmps66
 go_wp2_with (first
  | (go_at_call 38; refine (p_file_ok PP0.out s hs hl).mono ?_; rintro e w2 ⟨rfl, rfl⟩)
  | (go_at_call 35; refine (hmay.out _).mono ?_; rintro e w1 ⟨rfl, hb1⟩; rw [hn1]; have T2 := Lib.hid (show Tch (fun _ => False) w w1 from T1.andBelow hb1); have he1 := e_at (Tch.of_below hb1); have PP1 := Lib.hid (PP0.out.tch (Tch.of_below hb1)); clear hb1)
  | (go_at_call 34; first | (with_reducible refine (check_ok _ _).mono ?_; rintro e w2 ⟨rfl, rfl⟩) | (with_reducible refine (check_no _ _).mono ?_; rintro e w2 ⟨rfl, rfl⟩))
  | (go_at_call 36; refine (p_spend_no PP1.out hp).mono ?_; rintro e w3 ⟨rfl, rfl⟩)
  | go_in)
 have he := he1
 refine leaves_cons (f := 33) (args := #[.pointer (some ⟨w.heap.size, 0, none⟩)]) (by simp) (by simp [go_sem]) ?_
 refine (caught_panicking ⟨w.heap.size, 0, none⟩ 0 13 _ (cell_at he 0) (melt_at he 0)).mono ?_
 rintro e u' w'' ⟨rfl, rfl, rfl⟩
 have hr : (World.setCell _ ⟨w.heap.size, 0, none⟩ (Value.int .i64 13)).cell? ⟨w.heap.size, 0, none⟩ = some (.int .i64 13) := cell_at (set_same he 0 (.int .i64 13)) 0
 simp [Leaves, settle, results, Tryz.results66, go_sem, hr]
 exact T2.out.andSet _ (.inr (Nat.le_refl _))
set_option maxRecDepth 100000 in
set_option maxHeartbeats 2000000 in
theorem renameW_self {bp : Nat} {m : Mach} {x : Pt} {Lv : Nat → Prop} (s t : ByteArray) (k : Nat) {w : World} (pp0 : PP w bp m x Lv) (hs : s.size ≤ maxLen) (hl : look m.now s.data.toList = some k) (hn1 : nameOk t.data.toList = true) (hst : s.toList = t.toList) (hp : m.power ≠ 0) (hp1 : -1 ≤ m.power) (hp2 : m.power ≤ 9223372036854775807) :
  Calls Tryz.prog 66 #[.pointer (some ⟨bp, 0, none⟩), .string s, .string t] w fun e w' => e = .returned (.int .i64 0) ∧ Res w w' bp { m with power := spend m.power } x Lv := by
 have T1 : Tch (fun _ => False) w (w.alloc (eC 0)) := Tch.alloc _ w _
 have PP0 := Lib.hid (pp0.tch T1)
 have HLT := Lib.hid (fun i (hi : foot bp x Lv i) => pp0.lt hi)
 have he := alloc_new w (eC 0)
 clear pp0
 have hmay := Lib.hid (fun W => may_calls t W)
 have hb : (s.toList == t.toList) = true := by rw [hst]; simp
 go_enter_defers Tryz.func66, Tryz.ntmps66
 go_wp2_with (first
  | (go_at_call 38; refine (p_file_ok PP0.out s hs hl).mono ?_; rintro e w2 ⟨rfl, rfl⟩)
  | (go_at_call 35; refine (hmay.out _).mono ?_; rintro e w1 ⟨rfl, hb1⟩; rw [hn1]; have T2 := Lib.hid (show Tch (fun _ => False) w w1 from T1.andBelow hb1); have he1 := e_at (Tch.of_below hb1); have PP1 := Lib.hid (PP0.out.tch (Tch.of_below hb1)); clear hb1)
  | (go_at_call 34; first | (with_reducible refine (check_ok _ _).mono ?_; rintro e w2 ⟨rfl, rfl⟩) | (with_reducible refine (check_no _ _).mono ?_; rintro e w2 ⟨rfl, rfl⟩))
  | (go_at_call 36; refine (p_spend_ok PP1.out hp hp1 hp2).mono ?_; rintro e w3 ⟨rfl, pp3, ht3⟩; have PP3 := Lib.hid pp3; have T3 := Lib.hid (show Tch (foot bp x Lv) w w3 from (T2.out.mono (fun _ h _ => h.elim)).trans ht3 (fun k hk => .inl (hk ▸ .inl rfl))); have he3 : w3.heap[w.heap.size]? = some (eC 0) := ht3.keep he1 (fun e => by have := HLT.out bp (.inl rfl); omega); have ce3 : w3.cell? ⟨w.heap.size, 0, none⟩ = some (.int .i64 0) := cell_at he3 0; have fe3 : w3.frozen? ⟨w.heap.size, 0, none⟩ = false := melt_at he3 0; clear pp3 ht3)
  | go_in)
 have he := he3
 refine leaves_cons (f := 33) (args := #[.pointer (some ⟨w.heap.size, 0, none⟩)]) (by simp) (by simp [go_sem]) ?_
 refine (caught_idle ⟨w.heap.size, 0, none⟩ _).mono ?_
 rintro e u' w'' ⟨rfl, rfl, rfl⟩
 have hr : (World.setCell _ ⟨w.heap.size, 0, none⟩ (Value.int .i64 0)).cell? ⟨w.heap.size, 0, none⟩ = some (.int .i64 0) := cell_at (set_same he 0 (.int .i64 0)) 0
 simp [Leaves, settle, results, Tryz.results66, go_sem, hr]
 exact (Res.now PP3.out T3.out).store (Nat.le_refl _) ⟨0, he3⟩ _ 0
set_option maxRecDepth 100000 in
set_option maxHeartbeats 2000000 in
theorem renameW_ok {bp : Nat} {m : Mach} {x : Pt} {Lv : Nat → Prop} (s t : ByteArray) (k : Nat) {w : World} (pp0 : PP w bp m x Lv) (hs : s.size ≤ maxLen) (hl : look m.now s.data.toList = some k) (hlv : ∀ j, (s.data.toList, j) ∈ m.now → Lv j) (hn1 : nameOk t.data.toList = true) (hst : s.toList ≠ t.toList) (ht2 : t.size ≤ 100000000000000) (hp : m.power ≠ 0) (hp1 : -1 ≤ m.power) (hp2 : m.power ≤ 9223372036854775807) (hs2 : s.size ≤ 100000000000000) (hn : m.now.length < 100000000) (hsl : m.steps.length < 1000000000) :
  Calls Tryz.prog 66 #[.pointer (some ⟨bp, 0, none⟩), .string s, .string t] w fun e w' => e = .returned (.int .i64 0) ∧ Res w w' bp { m with steps := m.steps ++ [(t.data.toList, some k), (s.data.toList, none)], power := spend m.power } x Lv := by
 have T1 : Tch (fun _ => False) w (w.alloc (eC 0)) := Tch.alloc _ w _
 have PP0 := Lib.hid (pp0.tch T1)
 have HLT := Lib.hid (fun i (hi : foot bp x Lv i) => pp0.lt hi)
 have he := alloc_new w (eC 0)
 clear pp0
 have hmay := Lib.hid (fun W => may_calls t W)
 have hb : (s.toList == t.toList) = false := by simpa using hst
 go_enter_defers Tryz.func66, Tryz.ntmps66
 go_wp2_with (first
  | (go_at_call 38; refine (p_file_ok PP0.out s hs hl).mono ?_; rintro e w2 ⟨rfl, rfl⟩)
  | (go_at_call 35; refine (hmay.out _).mono ?_; rintro e w1 ⟨rfl, hb1⟩; rw [hn1]; have T2 := Lib.hid (show Tch (fun _ => False) w w1 from T1.andBelow hb1); have he1 := e_at (Tch.of_below hb1); have PP1 := Lib.hid (PP0.out.tch (Tch.of_below hb1)); clear hb1)
  | (go_at_call 34; first | (with_reducible refine (check_ok _ _).mono ?_; rintro e w2 ⟨rfl, rfl⟩) | (with_reducible refine (check_no _ _).mono ?_; rintro e w2 ⟨rfl, rfl⟩))
  | (go_at_call 36; refine (p_spend_ok PP1.out hp hp1 hp2).mono ?_; rintro e w3 ⟨rfl, pp3, ht3⟩; have PP3 := Lib.hid pp3; have T3 := Lib.hid (show Tch (foot bp x Lv) w w3 from (T2.out.mono (fun _ h _ => h.elim)).trans ht3 (fun k hk => .inl (hk ▸ .inl rfl))); have he3 : w3.heap[w.heap.size]? = some (eC 0) := ht3.keep he1 (fun e => by have := HLT.out bp (.inl rfl); omega); clear pp3 ht3)
  | (go_at_call 37; refine (rename_go PP3.out s t k (hlv k (look_mem hl)) hs2 ht2 hn hsl).mono ?_; rintro e w4 ⟨rfl, hres⟩; have HRES := Lib.hid hres; have he4 : w4.heap[w.heap.size]? = some (eC 0) := (by obtain ⟨_, _, _, ht, _⟩ := hres; exact ht.keep he3 (fun hf => by have := HLT.out _ hf; omega)); have ce4 : w4.cell? ⟨w.heap.size, 0, none⟩ = some (.int .i64 0) := cell_at he4 0; have fe4 : w4.frozen? ⟨w.heap.size, 0, none⟩ = false := melt_at he4 0; clear hres)
  | go_in)
 have he := he4
 refine leaves_cons (f := 33) (args := #[.pointer (some ⟨w.heap.size, 0, none⟩)]) (by simp) (by simp [go_sem]) ?_
 refine (caught_idle ⟨w.heap.size, 0, none⟩ _).mono ?_
 rintro e u' w'' ⟨rfl, rfl, rfl⟩
 have hr : (World.setCell _ ⟨w.heap.size, 0, none⟩ (Value.int .i64 0)).cell? ⟨w.heap.size, 0, none⟩ = some (.int .i64 0) := cell_at (set_same he 0 (.int .i64 0)) 0
 simp [Leaves, settle, results, Tryz.results66, go_sem, hr]
 exact (Res.after T3.out HRES.out).store (Nat.le_refl _) ⟨0, he4⟩ _ 0
theorem writeW_none {bp : Nat} {m : Mach} {x : Pt} {Lv : Nat → Prop} (s t : ByteArray) {w : World} (pp0 : PP w bp m x Lv) (hs : s.size ≤ maxLen) (hl : look m.now s.data.toList = none) :
  Calls Tryz.prog 11 #[.pointer (some ⟨bp, 0, none⟩), .string s, .string t] w fun e w' => e = .returned (.int .i64 10) ∧ Tch (fun _ => False) w w' := by
 have T1 : Tch (fun _ => False) w (w.alloc (eC 0)) := Tch.alloc _ w _
 have PP0 := Lib.hid (pp0.tch T1)
 have HLT := Lib.hid (fun i (hi : foot bp x Lv i) => pp0.lt hi)
 have he := alloc_new w (eC 0)
 clear pp0
 go_enter_defers Tryz.func11, Tryz.ntmps11
 go_wp2_with (first
  | (go_at_call 38; refine (p_file_no PP0.out s hs hl).mono ?_; rintro e w2 ⟨rfl, rfl⟩)
  | go_in)
 refine leaves_cons (f := 33) (args := #[.pointer (some ⟨w.heap.size, 0, none⟩)]) (by simp) (by simp [go_sem]) ?_
 refine (caught_panicking ⟨w.heap.size, 0, none⟩ 0 10 _ (cell_at he 0) (melt_at he 0)).mono ?_
 rintro e u' w'' ⟨rfl, rfl, rfl⟩
 have hr : (World.setCell _ ⟨w.heap.size, 0, none⟩ (Value.int .i64 10)).cell? ⟨w.heap.size, 0, none⟩ = some (.int .i64 10) := cell_at (set_same he 0 (.int .i64 10)) 0
 simp [Leaves, settle, results, Tryz.results11, go_sem, hr]
 exact T1.andSet _ (.inr (Nat.le_refl _))
theorem leaves_same {P : Program} {fn : Func} {t1 t2 : Array Value} {R : Ending → World → Prop} (h : results fn t1 = results fn t2) : ∀ (ds : List Deferred) (u : FrameMode) (w : World), Leaves P fn t1 R ds u w → Leaves P fn t2 R ds u w := by
 intro ds
 induction ds with
 | nil =>
  intro u w hl
  cases u with
  | run => exact hl
  | returning => simp only [Leaves] at hl ⊢; rw [← h]; exact hl
  | panicking c => exact hl
 | cons d ds ih =>
  intro u w hl
  obtain ⟨h1, fv, cap, f, args, h2, h3, h4⟩ := hl
  refine ⟨h1, fv, cap, f, args, h2, h3, fun c0 cs hu => ?_⟩
  obtain ⟨e, u', w', fr, hr, rest⟩ := h4 c0 cs hu
  refine ⟨e, u', w', fr, ?_, rest⟩
  cases e with
  | returned v => exact ih _ _ hr
  | panicked c => exact ih _ _ hr
  | outgrown => exact hr
theorem put_panic {P : Program} {fn : Func} {K : Act → World → Prop} {R : Ending → World → Prop} {n : Nat} (hres : ∀ t1 t2 : Array Value, t1.getD n undef = t2.getD n undef → results fn t1 = results fn t2) (d : Nat) (hd : d ≠ n) (v : Value) :
  ∀ c a w, Exit.then K (bodyPostD P fn R) (.panic c) (Act.put a (some d) v) w → Exit.then K (bodyPostD P fn R) (.panic c) a w := by
 intro c a w h
 refine leaves_same (hres _ _ ?_) _ _ _ h
 show (a.tmps.setIfInBounds d v).getD n undef = a.tmps.getD n undef
 simp [Array.getD_eq_getD_getElem?, Array.getElem?_setIfInBounds, hd]
theorem res_write : ∀ t1 t2 : Array Value, t1.getD 6 undef = t2.getD 6 undef → results Tryz.f11 t1 = results Tryz.f11 t2 := by
 intro t1 t2 h
 have h' : t1[6]?.getD undef = t2[6]?.getD undef := by simpa using h
 unfold results
 rw [Tryz.results11]
 simp [h']
set_option maxRecDepth 100000 in
set_option maxHeartbeats 2000000 in
theorem writeW_full {bp : Nat} {m : Mach} {x : Pt} {Lv : Nat → Prop} {C : Nat} (s t : ByteArray) (k : Nat) {w : World} (pp0 : PP w bp m x Lv) (hs : s.size ≤ maxLen) (hl : look m.now s.data.toList = some k) (hi : Inv C m) (hC : C ≤ 100000000) (htl : t.size ≤ 1000000000) (hfull : m.room - (used m.files m.now : Int) < t.size) :
  Calls Tryz.prog 11 #[.pointer (some ⟨bp, 0, none⟩), .string s, .string t] w fun e w' => e = .returned (.int .i64 12) ∧ Tch (fun _ => False) w w' := by
 have T1 : Tch (fun _ => False) w (w.alloc (eC 0)) := Tch.alloc _ w _
 have PP0 := Lib.hid (pp0.tch T1)
 have HLT := Lib.hid (fun i (hi : foot bp x Lv i) => pp0.lt hi)
 have he := alloc_new w (eC 0)
 clear pp0
 obtain ⟨u, hu⟩ : ∃ u, u = used m.files m.now := ⟨_, rfl⟩
 have hub : u ≤ 500000000000000 := by
  have h1 := used_le hi m.now hi.now_key
  have h2 := hi.now_len
  omega
 have hr0 := hi.room0
 have hr1 := hi.room1
 have hsub : wrap64 (m.room - (u : Int)) = m.room - (u : Int) := by unfold wrap64; omega
 have hsub2 : IntKind.i64.wrap (m.room - (u : Int)) = m.room - (u : Int) := by rw [IntKind.wrap_i64]; omega
 have hdec : decide ((t.size : Int) ≤ m.room - (u : Int)) = false := decide_eq_false (by omega)
 have HU := Lib.hid (fun W (hW : PP W bp m x Lv) => used_calls bp m x Lv W hW hi hC)
 rw [← hu] at HU
 have k4 : (w.alloc (eC 0)).cell? ⟨bp, 4, none⟩ = some (.int .i64 m.room) := cell_at PP0.out.top 4
 clear hu hr0 hr1 hi
 go_enter_defers Tryz.func11, Tryz.ntmps11
 go_wp2_with (first
  | (go_at_call 38; refine (p_file_ok PP0.out s hs hl).mono ?_; rintro e w2 ⟨rfl, rfl⟩)
  | go_in)
 refine wp_region_any (by kernel_rfl) ?_
 change wpAny _ _ _ _ _ _ _ (World.drew _)
 refine wpAny_take (i := 0) (v := .string t) rfl (by kernel_rfl) (by kernel_rfl) (by kernel_rfl) (put_panic res_write 11 (by decide) _) (Or.inl ⟨by rfl, fun _ => by go_simp⟩) ?_
 refine wpAny_take (i := 1) (v := .int .i64 (t.size : Nat)) rfl (by kernel_rfl) (by kernel_rfl) (by kernel_rfl) (put_panic res_write 12 (by decide) _) (Or.inl ⟨by rfl, fun _ => by go_simp⟩) ?_
 refine wpAny_take (i := 2) (v := .pointer (some ⟨bp, 0, none⟩)) rfl (by kernel_rfl) (by kernel_rfl) (by kernel_rfl) (put_panic res_write 13 (by decide) _) (Or.inl ⟨by rfl, fun _ => by go_simp⟩) ?_
 refine wpAny_take (i := 3) (v := .pointer (some ⟨bp, 0, none⟩)) rfl (by kernel_rfl) (by kernel_rfl) (by kernel_rfl) (put_panic res_write 14 (by decide) _) (Or.inl ⟨by rfl, fun _ => by go_simp⟩) ?_
 refine wpAny_take (i := 4) (v := .pointer (some ⟨bp, 4, none⟩)) rfl (by kernel_rfl) (by kernel_rfl) (by kernel_rfl) (put_panic res_write 15 (by decide) _) (Or.inl ⟨by rfl, fun _ => by go_simp⟩) ?_
 refine wpAny_take (i := 6) (v := .pointer (some ⟨bp, 0, none⟩)) rfl (by kernel_rfl) (by kernel_rfl) (by kernel_rfl) (put_panic res_write 17 (by decide) _) (Or.inl ⟨by rfl, fun _ => by go_simp⟩) ?_
 refine wpAny_ready (rs := [5, 7]) (by kernel_rfl) (by simp) ?_
 refine AllReady.cons rfl (fun K hK => ?_) ?_
 ·go_simp
  refine hK _ _ ?_
  clear hK K
  refine wpAny_ready (rs := [7]) (by kernel_rfl) (by simp) ?_
  refine AllReady.cons rfl (fun K hK => ?_) AllReady.nil
  go_simp
  go_wp2_with (first | (go_at_call 39; refine (HU.out _ (PP0.out.tch (Tch.drew _ _))).mono ?_; rintro e w2 ⟨rfl, ht2⟩; have T2 := Lib.hid (show Tch (fun _ => False) w w2 from (T1.drewA).trans ht2 (fun _ h => h.elim)); have PP2 := Lib.hid ((PP0.out.tch (Tch.drew _ _)).tch ht2); have he2 := ht2.keep (Tch.keep (Tch.drew (fun _ => False) _) he id) id; have k42 : w2.cell? ⟨bp, 4, none⟩ = some (.int .i64 m.room) := cell_at PP2.out.top 4; clear ht2) | go_in)
  refine wpAny_take (i := 8) (v := .int .i64 (m.room - (u : Int))) rfl (by kernel_rfl) (by kernel_rfl) (by kernel_rfl) (put_panic res_write 19 (by decide) _) (Or.inl ⟨by rfl, fun _ => by first | (go_simp; done) | (go_simp; simp [hsub, hsub2]; done)⟩) ?_
  refine wpAny_take (i := 9) (v := .bool (decide ((t.size : Int) ≤ m.room - (u : Int)))) rfl (by kernel_rfl) (by kernel_rfl) (by kernel_rfl) (put_panic res_write 20 (by decide) _) (Or.inl ⟨by rfl, fun _ => by first | (go_simp; done) | (go_simp; simp [hsub, hsub2]; done)⟩) ?_
  refine wpAny_ready (rs := [10]) (by kernel_rfl) (by simp) ?_
  refine AllReady.cons rfl (fun K hK => ?_) AllReady.nil
  go_simp
  go_wp2_with (first | (go_at_call 34; (try rw [hdec]); refine (check_no _ _).mono ?_; rintro e w5 ⟨rfl, rfl⟩) | go_in)
  have he := he2
  refine leaves_cons (f := 33) (args := #[.pointer (some ⟨w.heap.size, 0, none⟩)]) (by simp) (by simp [go_sem]) ?_
  refine (caught_panicking ⟨w.heap.size, 0, none⟩ 0 12 _ (cell_at he 0) (melt_at he 0)).mono ?_
  rintro e u' w'' ⟨rfl, rfl, rfl⟩
  have hr : (World.setCell _ ⟨w.heap.size, 0, none⟩ (Value.int .i64 12)).cell? ⟨w.heap.size, 0, none⟩ = some (.int .i64 12) := cell_at (set_same he 0 (.int .i64 12)) 0
  simp [Leaves, settle, results, Tryz.results11, go_sem, hr]
  exact T2.out.andSet _ (.inr (Nat.le_refl _))
 ·refine AllReady.cons rfl (fun K hK => ?_) AllReady.nil
  go_simp
  go_wp2_with (first | (go_at_call 39; refine (HU.out _ (PP0.out.tch (Tch.drew _ _))).mono ?_; rintro e w2 ⟨rfl, ht2⟩; have T2 := Lib.hid (show Tch (fun _ => False) w w2 from (T1.drewA).trans ht2 (fun _ h => h.elim)); have PP2 := Lib.hid ((PP0.out.tch (Tch.drew _ _)).tch ht2); have he2 := ht2.keep (Tch.keep (Tch.drew (fun _ => False) _) he id) id; have k42 : w2.cell? ⟨bp, 4, none⟩ = some (.int .i64 m.room) := cell_at PP2.out.top 4; clear ht2) | go_in)
  refine wpAny_ready (rs := [5]) (by kernel_rfl) (by simp) ?_
  refine AllReady.cons rfl (fun K hK => ?_) AllReady.nil
  go_simp
  refine hK _ _ ?_
  clear hK K
  refine wpAny_take (i := 8) (v := .int .i64 (m.room - (u : Int))) rfl (by kernel_rfl) (by kernel_rfl) (by kernel_rfl) (put_panic res_write 19 (by decide) _) (Or.inl ⟨by rfl, fun _ => by first | (go_simp; done) | (go_simp; simp [hsub, hsub2]; done)⟩) ?_
  refine wpAny_take (i := 9) (v := .bool (decide ((t.size : Int) ≤ m.room - (u : Int)))) rfl (by kernel_rfl) (by kernel_rfl) (by kernel_rfl) (put_panic res_write 20 (by decide) _) (Or.inl ⟨by rfl, fun _ => by first | (go_simp; done) | (go_simp; simp [hsub, hsub2]; done)⟩) ?_
  refine wpAny_ready (rs := [10]) (by kernel_rfl) (by simp) ?_
  refine AllReady.cons rfl (fun K hK => ?_) AllReady.nil
  go_simp
  go_wp2_with (first | (go_at_call 34; (try rw [hdec]); refine (check_no _ _).mono ?_; rintro e w5 ⟨rfl, rfl⟩) | go_in)
  have he := he2
  refine leaves_cons (f := 33) (args := #[.pointer (some ⟨w.heap.size, 0, none⟩)]) (by simp) (by simp [go_sem]) ?_
  refine (caught_panicking ⟨w.heap.size, 0, none⟩ 0 12 _ (cell_at he 0) (melt_at he 0)).mono ?_
  rintro e u' w'' ⟨rfl, rfl, rfl⟩
  have hr : (World.setCell _ ⟨w.heap.size, 0, none⟩ (Value.int .i64 12)).cell? ⟨w.heap.size, 0, none⟩ = some (.int .i64 12) := cell_at (set_same he 0 (.int .i64 12)) 0
  simp [Leaves, settle, results, Tryz.results11, go_sem, hr]
  exact T2.out.andSet _ (.inr (Nat.le_refl _))
set_option maxRecDepth 100000 in
set_option maxHeartbeats 2000000 in
theorem writeW_dead {bp : Nat} {m : Mach} {x : Pt} {Lv : Nat → Prop} {C : Nat} (s t : ByteArray) (k : Nat) {w : World} (pp0 : PP w bp m x Lv) (hs : s.size ≤ maxLen) (hl : look m.now s.data.toList = some k) (hi : Inv C m) (hC : C ≤ 100000000) (htl : t.size ≤ 1000000000) (hfit : ¬ m.room - (used m.files m.now : Int) < t.size) (hp : m.power = 0) :
  Calls Tryz.prog 11 #[.pointer (some ⟨bp, 0, none⟩), .string s, .string t] w fun e w' => e = .returned (.int .i64 13) ∧ Tch (fun _ => False) w w' := by
 have T1 : Tch (fun _ => False) w (w.alloc (eC 0)) := Tch.alloc _ w _
 have PP0 := Lib.hid (pp0.tch T1)
 have HLT := Lib.hid (fun i (hi : foot bp x Lv i) => pp0.lt hi)
 have he := alloc_new w (eC 0)
 clear pp0
 obtain ⟨u, hu⟩ : ∃ u, u = used m.files m.now := ⟨_, rfl⟩
 have hub : u ≤ 500000000000000 := by
  have h1 := used_le hi m.now hi.now_key
  have h2 := hi.now_len
  omega
 have hr0 := hi.room0
 have hr1 := hi.room1
 have hsub : wrap64 (m.room - (u : Int)) = m.room - (u : Int) := by unfold wrap64; omega
 have hsub2 : IntKind.i64.wrap (m.room - (u : Int)) = m.room - (u : Int) := by rw [IntKind.wrap_i64]; omega
 have hdec : decide ((t.size : Int) ≤ m.room - (u : Int)) = true := decide_eq_true (by omega)
 have HU := Lib.hid (fun W (hW : PP W bp m x Lv) => used_calls bp m x Lv W hW hi hC)
 rw [← hu] at HU
 have k4 : (w.alloc (eC 0)).cell? ⟨bp, 4, none⟩ = some (.int .i64 m.room) := cell_at PP0.out.top 4
 clear hu hr0 hr1 hi
 go_enter_defers Tryz.func11, Tryz.ntmps11
 go_wp2_with (first
  | (go_at_call 38; refine (p_file_ok PP0.out s hs hl).mono ?_; rintro e w2 ⟨rfl, rfl⟩)
  | go_in)
 refine wp_region_any (by kernel_rfl) ?_
 change wpAny _ _ _ _ _ _ _ (World.drew _)
 refine wpAny_take (i := 0) (v := .string t) rfl (by kernel_rfl) (by kernel_rfl) (by kernel_rfl) (put_panic res_write 11 (by decide) _) (Or.inl ⟨by rfl, fun _ => by go_simp⟩) ?_
 refine wpAny_take (i := 1) (v := .int .i64 (t.size : Nat)) rfl (by kernel_rfl) (by kernel_rfl) (by kernel_rfl) (put_panic res_write 12 (by decide) _) (Or.inl ⟨by rfl, fun _ => by go_simp⟩) ?_
 refine wpAny_take (i := 2) (v := .pointer (some ⟨bp, 0, none⟩)) rfl (by kernel_rfl) (by kernel_rfl) (by kernel_rfl) (put_panic res_write 13 (by decide) _) (Or.inl ⟨by rfl, fun _ => by go_simp⟩) ?_
 refine wpAny_take (i := 3) (v := .pointer (some ⟨bp, 0, none⟩)) rfl (by kernel_rfl) (by kernel_rfl) (by kernel_rfl) (put_panic res_write 14 (by decide) _) (Or.inl ⟨by rfl, fun _ => by go_simp⟩) ?_
 refine wpAny_take (i := 4) (v := .pointer (some ⟨bp, 4, none⟩)) rfl (by kernel_rfl) (by kernel_rfl) (by kernel_rfl) (put_panic res_write 15 (by decide) _) (Or.inl ⟨by rfl, fun _ => by go_simp⟩) ?_
 refine wpAny_take (i := 6) (v := .pointer (some ⟨bp, 0, none⟩)) rfl (by kernel_rfl) (by kernel_rfl) (by kernel_rfl) (put_panic res_write 17 (by decide) _) (Or.inl ⟨by rfl, fun _ => by go_simp⟩) ?_
 refine wpAny_ready (rs := [5, 7]) (by kernel_rfl) (by simp) ?_
 refine AllReady.cons rfl (fun K hK => ?_) ?_
 ·go_simp
  refine hK _ _ ?_
  clear hK K
  refine wpAny_ready (rs := [7]) (by kernel_rfl) (by simp) ?_
  refine AllReady.cons rfl (fun K hK => ?_) AllReady.nil
  go_simp
  go_wp2_with (first | (go_at_call 39; refine (HU.out _ (PP0.out.tch (Tch.drew _ _))).mono ?_; rintro e w2 ⟨rfl, ht2⟩; have T2 := Lib.hid (show Tch (fun _ => False) w w2 from (T1.drewA).trans ht2 (fun _ h => h.elim)); have PP2 := Lib.hid ((PP0.out.tch (Tch.drew _ _)).tch ht2); have he2 := ht2.keep (Tch.keep (Tch.drew (fun _ => False) _) he id) id; have k42 : w2.cell? ⟨bp, 4, none⟩ = some (.int .i64 m.room) := cell_at PP2.out.top 4; clear ht2) | go_in)
  refine wpAny_take (i := 8) (v := .int .i64 (m.room - (u : Int))) rfl (by kernel_rfl) (by kernel_rfl) (by kernel_rfl) (put_panic res_write 19 (by decide) _) (Or.inl ⟨by rfl, fun _ => by first | (go_simp; done) | (go_simp; simp [hsub, hsub2]; done)⟩) ?_
  refine wpAny_take (i := 9) (v := .bool (decide ((t.size : Int) ≤ m.room - (u : Int)))) rfl (by kernel_rfl) (by kernel_rfl) (by kernel_rfl) (put_panic res_write 20 (by decide) _) (Or.inl ⟨by rfl, fun _ => by first | (go_simp; done) | (go_simp; simp [hsub, hsub2]; done)⟩) ?_
  refine wpAny_ready (rs := [10]) (by kernel_rfl) (by simp) ?_
  refine AllReady.cons rfl (fun K hK => ?_) AllReady.nil
  go_simp
  go_wp2_with (first | (go_at_call 34; (try rw [hdec]); refine (check_ok _ _).mono ?_; rintro e w5 ⟨rfl, rfl⟩) | go_in)
  refine wpAny_done (by kernel_rfl) ?_ _
  go_wp2_with (first
   | (go_at_call 36; refine (p_spend_no PP2.out hp).mono ?_; rintro e w3 ⟨rfl, rfl⟩)
   | go_in)
  have he := he2
  refine leaves_cons (f := 33) (args := #[.pointer (some ⟨w.heap.size, 0, none⟩)]) (by simp) (by simp [go_sem]) ?_
  refine (caught_panicking ⟨w.heap.size, 0, none⟩ 0 13 _ (cell_at he 0) (melt_at he 0)).mono ?_
  rintro e u' w'' ⟨rfl, rfl, rfl⟩
  have hr : (World.setCell _ ⟨w.heap.size, 0, none⟩ (Value.int .i64 13)).cell? ⟨w.heap.size, 0, none⟩ = some (.int .i64 13) := cell_at (set_same he 0 (.int .i64 13)) 0
  simp [Leaves, settle, results, Tryz.results11, go_sem, hr]
  exact T2.out.andSet _ (.inr (Nat.le_refl _))
 ·refine AllReady.cons rfl (fun K hK => ?_) AllReady.nil
  go_simp
  go_wp2_with (first | (go_at_call 39; refine (HU.out _ (PP0.out.tch (Tch.drew _ _))).mono ?_; rintro e w2 ⟨rfl, ht2⟩; have T2 := Lib.hid (show Tch (fun _ => False) w w2 from (T1.drewA).trans ht2 (fun _ h => h.elim)); have PP2 := Lib.hid ((PP0.out.tch (Tch.drew _ _)).tch ht2); have he2 := ht2.keep (Tch.keep (Tch.drew (fun _ => False) _) he id) id; have k42 : w2.cell? ⟨bp, 4, none⟩ = some (.int .i64 m.room) := cell_at PP2.out.top 4; clear ht2) | go_in)
  refine wpAny_ready (rs := [5]) (by kernel_rfl) (by simp) ?_
  refine AllReady.cons rfl (fun K hK => ?_) AllReady.nil
  go_simp
  refine hK _ _ ?_
  clear hK K
  refine wpAny_take (i := 8) (v := .int .i64 (m.room - (u : Int))) rfl (by kernel_rfl) (by kernel_rfl) (by kernel_rfl) (put_panic res_write 19 (by decide) _) (Or.inl ⟨by rfl, fun _ => by first | (go_simp; done) | (go_simp; simp [hsub, hsub2]; done)⟩) ?_
  refine wpAny_take (i := 9) (v := .bool (decide ((t.size : Int) ≤ m.room - (u : Int)))) rfl (by kernel_rfl) (by kernel_rfl) (by kernel_rfl) (put_panic res_write 20 (by decide) _) (Or.inl ⟨by rfl, fun _ => by first | (go_simp; done) | (go_simp; simp [hsub, hsub2]; done)⟩) ?_
  refine wpAny_ready (rs := [10]) (by kernel_rfl) (by simp) ?_
  refine AllReady.cons rfl (fun K hK => ?_) AllReady.nil
  go_simp
  go_wp2_with (first | (go_at_call 34; (try rw [hdec]); refine (check_ok _ _).mono ?_; rintro e w5 ⟨rfl, rfl⟩) | go_in)
  refine wpAny_done (by kernel_rfl) ?_ _
  go_wp2_with (first
   | (go_at_call 36; refine (p_spend_no PP2.out hp).mono ?_; rintro e w3 ⟨rfl, rfl⟩)
   | go_in)
  have he := he2
  refine leaves_cons (f := 33) (args := #[.pointer (some ⟨w.heap.size, 0, none⟩)]) (by simp) (by simp [go_sem]) ?_
  refine (caught_panicking ⟨w.heap.size, 0, none⟩ 0 13 _ (cell_at he 0) (melt_at he 0)).mono ?_
  rintro e u' w'' ⟨rfl, rfl, rfl⟩
  have hr : (World.setCell _ ⟨w.heap.size, 0, none⟩ (Value.int .i64 13)).cell? ⟨w.heap.size, 0, none⟩ = some (.int .i64 13) := cell_at (set_same he 0 (.int .i64 13)) 0
  simp [Leaves, settle, results, Tryz.results11, go_sem, hr]
  exact T2.out.andSet _ (.inr (Nat.le_refl _))
set_option maxRecDepth 100000 in
set_option maxHeartbeats 2000000 in
theorem writeW_ok {bp : Nat} {m : Mach} {x : Pt} {Lv : Nat → Prop} {C : Nat} (s t : ByteArray) (k : Nat) {w : World} (pp0 : PP w bp m x Lv) (hs : s.size ≤ maxLen) (hl : look m.now s.data.toList = some k) (hlv : ∀ j, (s.data.toList, j) ∈ m.now → Lv j) (hi : Inv C m) (hC : C ≤ 100000000) (htl : t.size ≤ 1000000000) (hfit : ¬ m.room - (used m.files m.now : Int) < t.size) (hp : m.power ≠ 0) (hp1 : -1 ≤ m.power) (hp2 : m.power ≤ 9223372036854775807) :
  Calls Tryz.prog 11 #[.pointer (some ⟨bp, 0, none⟩), .string s, .string t] w fun e w' => e = .returned (.int .i64 0) ∧ Res w w' bp { m with files := m.files.set k ⟨(fileAt m.files k).safe, (fileAt m.files k).loose ++ t.data.toList⟩, power := spend m.power } x Lv := by
 have T1 : Tch (fun _ => False) w (w.alloc (eC 0)) := Tch.alloc _ w _
 have PP0 := Lib.hid (pp0.tch T1)
 have HLT := Lib.hid (fun i (hi : foot bp x Lv i) => pp0.lt hi)
 have he := alloc_new w (eC 0)
 clear pp0
 have hk := hlv k (look_mem hl)
 have hlen : (fileAt m.files k).all.length ≤ 4194304 := by
  have h1 := hi.size _ (fileAt_mem (hi.now_key _ (look_mem hl)))
  have h2 := hi.room1
  simp only at h1
  omega
 have hsum : (fileAt m.files k).all.length + t.size ≤ 1000000000 := by
  have h2 := hi.room1
  omega
 obtain ⟨u, hu⟩ : ∃ u, u = used m.files m.now := ⟨_, rfl⟩
 have hub : u ≤ 500000000000000 := by
  have h1 := used_le hi m.now hi.now_key
  have h2 := hi.now_len
  omega
 have hr0 := hi.room0
 have hr1 := hi.room1
 have hsub : wrap64 (m.room - (u : Int)) = m.room - (u : Int) := by unfold wrap64; omega
 have hsub2 : IntKind.i64.wrap (m.room - (u : Int)) = m.room - (u : Int) := by rw [IntKind.wrap_i64]; omega
 have hdec : decide ((t.size : Int) ≤ m.room - (u : Int)) = true := decide_eq_true (by omega)
 have HU := Lib.hid (fun W (hW : PP W bp m x Lv) => used_calls bp m x Lv W hW hi hC)
 rw [← hu] at HU
 have k4 : (w.alloc (eC 0)).cell? ⟨bp, 4, none⟩ = some (.int .i64 m.room) := cell_at PP0.out.top 4
 clear hu hr0 hr1 hi
 go_enter_defers Tryz.func11, Tryz.ntmps11
 go_wp2_with (first
  | (go_at_call 38; refine (p_file_ok PP0.out s hs hl).mono ?_; rintro e w2 ⟨rfl, rfl⟩)
  | go_in)
 refine wp_region_any (by kernel_rfl) ?_
 change wpAny _ _ _ _ _ _ _ (World.drew _)
 refine wpAny_take (i := 0) (v := .string t) rfl (by kernel_rfl) (by kernel_rfl) (by kernel_rfl) (put_panic res_write 11 (by decide) _) (Or.inl ⟨by rfl, fun _ => by go_simp⟩) ?_
 refine wpAny_take (i := 1) (v := .int .i64 (t.size : Nat)) rfl (by kernel_rfl) (by kernel_rfl) (by kernel_rfl) (put_panic res_write 12 (by decide) _) (Or.inl ⟨by rfl, fun _ => by go_simp⟩) ?_
 refine wpAny_take (i := 2) (v := .pointer (some ⟨bp, 0, none⟩)) rfl (by kernel_rfl) (by kernel_rfl) (by kernel_rfl) (put_panic res_write 13 (by decide) _) (Or.inl ⟨by rfl, fun _ => by go_simp⟩) ?_
 refine wpAny_take (i := 3) (v := .pointer (some ⟨bp, 0, none⟩)) rfl (by kernel_rfl) (by kernel_rfl) (by kernel_rfl) (put_panic res_write 14 (by decide) _) (Or.inl ⟨by rfl, fun _ => by go_simp⟩) ?_
 refine wpAny_take (i := 4) (v := .pointer (some ⟨bp, 4, none⟩)) rfl (by kernel_rfl) (by kernel_rfl) (by kernel_rfl) (put_panic res_write 15 (by decide) _) (Or.inl ⟨by rfl, fun _ => by go_simp⟩) ?_
 refine wpAny_take (i := 6) (v := .pointer (some ⟨bp, 0, none⟩)) rfl (by kernel_rfl) (by kernel_rfl) (by kernel_rfl) (put_panic res_write 17 (by decide) _) (Or.inl ⟨by rfl, fun _ => by go_simp⟩) ?_
 refine wpAny_ready (rs := [5, 7]) (by kernel_rfl) (by simp) ?_
 refine AllReady.cons rfl (fun K hK => ?_) ?_
 ·go_simp
  refine hK _ _ ?_
  clear hK K
  refine wpAny_ready (rs := [7]) (by kernel_rfl) (by simp) ?_
  refine AllReady.cons rfl (fun K hK => ?_) AllReady.nil
  go_simp
  go_wp2_with (first | (go_at_call 39; refine (HU.out _ (PP0.out.tch (Tch.drew _ _))).mono ?_; rintro e w2 ⟨rfl, ht2⟩; have T2 := Lib.hid (show Tch (fun _ => False) w w2 from (T1.drewA).trans ht2 (fun _ h => h.elim)); have PP2 := Lib.hid ((PP0.out.tch (Tch.drew _ _)).tch ht2); have he2 := ht2.keep (Tch.keep (Tch.drew (fun _ => False) _) he id) id; have k42 : w2.cell? ⟨bp, 4, none⟩ = some (.int .i64 m.room) := cell_at PP2.out.top 4; clear ht2) | go_in)
  refine wpAny_take (i := 8) (v := .int .i64 (m.room - (u : Int))) rfl (by kernel_rfl) (by kernel_rfl) (by kernel_rfl) (put_panic res_write 19 (by decide) _) (Or.inl ⟨by rfl, fun _ => by first | (go_simp; done) | (go_simp; simp [hsub, hsub2]; done)⟩) ?_
  refine wpAny_take (i := 9) (v := .bool (decide ((t.size : Int) ≤ m.room - (u : Int)))) rfl (by kernel_rfl) (by kernel_rfl) (by kernel_rfl) (put_panic res_write 20 (by decide) _) (Or.inl ⟨by rfl, fun _ => by first | (go_simp; done) | (go_simp; simp [hsub, hsub2]; done)⟩) ?_
  refine wpAny_ready (rs := [10]) (by kernel_rfl) (by simp) ?_
  refine AllReady.cons rfl (fun K hK => ?_) AllReady.nil
  go_simp
  go_wp2_with (first | (go_at_call 34; (try rw [hdec]); refine (check_ok _ _).mono ?_; rintro e w5 ⟨rfl, rfl⟩) | go_in)
  refine wpAny_done (by kernel_rfl) ?_ _
  go_wp2_with (first
   | (go_at_call 36; refine (p_spend_ok PP2.out hp hp1 hp2).mono ?_; rintro e w3 ⟨rfl, pp3, ht3⟩; have PP3 := Lib.hid pp3; have T3 := Lib.hid (show Tch (foot bp x Lv) w w3 from (T2.out.mono (fun _ h _ => h.elim)).trans ht3 (fun k hk => .inl (hk ▸ .inl rfl))); have he3 : w3.heap[w.heap.size]? = some (eC 0) := ht3.keep he2 (fun e => by have := HLT.out bp (.inl rfl); omega); obtain ⟨A, c, hbv, f0, f1, z0, z1⟩ := pp3.cells hk; have HBV := Lib.hid hbv; have HB := Lib.hid (show w3.ownsRow 0 5 1 (.slice A (fileAt m.files k).all.length c) (fileAt m.files k).all.length (Lib.byteCells (fileAt m.files k).all) from (by rw [← hbv]; exact pp3.bytes k hk)); clear hbv; clear pp3 ht3)
   | (at_builtin; refine wpList_append_str rfl _ _ rfl (.slice A (fileAt m.files k).all.length c) (fileAt m.files k).all.length _ rfl HB.out t rfl hsum ?_; intro v4 w4 hown4 hgr4 hloc4; obtain ⟨A4, cc4, rfl⟩ := row_slice hown4; have HW := Lib.hid (write_done PP3.out hk t _ hown4 (by rw [HBV.out]; exact hgr4) (by rw [HBV.out]; exact hloc4)); have hfb4 : w4.heap[x.fb k]? = some (fileC (x.bv k) (fileAt m.files k).safe.length) := (hgr4.block _ (blk_lt (PP3.out.file k hk)) (fun e => by obtain ⟨_, e2⟩ := row_block HB.out e.symm; exact cells_ne (PP3.out.file k hk) e2 (by decide) rfl)).trans (PP3.out.file k hk); have he4 : w4.heap[w.heap.size]? = some (eC 0) := (hgr4.block _ (blk_lt he3) (fun e => by obtain ⟨_, e2⟩ := row_block HB.out e.symm; exact cells_ne he3 e2 (by decide) rfl)).trans he3; have f4 : w4.cell? ⟨x.fb k, 0, none⟩ = some (x.bv k) := cell_at hfb4 0; have z4 : w4.frozen? ⟨x.fb k, 0, none⟩ = false := melt_at hfb4 0; have nb : ¬ x.fb k = w.heap.size := cells_ne hfb4 he4 (by decide); have nb2 : ¬ w.heap.size = x.fb k := (fun e => nb e.symm); have ce4 : w4.cell? ⟨w.heap.size, 0, none⟩ = some (.int .i64 0) := cell_at he4 0; have fe4 : w4.frozen? ⟨w.heap.size, 0, none⟩ = false := melt_at he4 0; clear hown4 hgr4 hloc4)
   | go_in)
  have he := (set_other (w := w4) 0 (.slice A4 ((fileAt m.files k).all.length + t.size) cc4) nb2).trans he4
  refine leaves_cons (f := 33) (args := #[.pointer (some ⟨w.heap.size, 0, none⟩)]) (by simp) (by simp [go_sem]) ?_
  refine (caught_idle ⟨w.heap.size, 0, none⟩ _).mono ?_
  rintro e u' w'' ⟨rfl, rfl, rfl⟩
  have hr : (World.setCell _ ⟨w.heap.size, 0, none⟩ (Value.int .i64 0)).cell? ⟨w.heap.size, 0, none⟩ = some (.int .i64 0) := cell_at (set_same he 0 (.int .i64 0)) 0
  simp [Leaves, settle, results, Tryz.results11, go_sem, hr]
  exact (Res.after T3.out HW.out).store (Nat.le_refl _) ⟨0, he⟩ _ 0
 ·refine AllReady.cons rfl (fun K hK => ?_) AllReady.nil
  go_simp
  go_wp2_with (first | (go_at_call 39; refine (HU.out _ (PP0.out.tch (Tch.drew _ _))).mono ?_; rintro e w2 ⟨rfl, ht2⟩; have T2 := Lib.hid (show Tch (fun _ => False) w w2 from (T1.drewA).trans ht2 (fun _ h => h.elim)); have PP2 := Lib.hid ((PP0.out.tch (Tch.drew _ _)).tch ht2); have he2 := ht2.keep (Tch.keep (Tch.drew (fun _ => False) _) he id) id; have k42 : w2.cell? ⟨bp, 4, none⟩ = some (.int .i64 m.room) := cell_at PP2.out.top 4; clear ht2) | go_in)
  refine wpAny_ready (rs := [5]) (by kernel_rfl) (by simp) ?_
  refine AllReady.cons rfl (fun K hK => ?_) AllReady.nil
  go_simp
  refine hK _ _ ?_
  clear hK K
  refine wpAny_take (i := 8) (v := .int .i64 (m.room - (u : Int))) rfl (by kernel_rfl) (by kernel_rfl) (by kernel_rfl) (put_panic res_write 19 (by decide) _) (Or.inl ⟨by rfl, fun _ => by first | (go_simp; done) | (go_simp; simp [hsub, hsub2]; done)⟩) ?_
  refine wpAny_take (i := 9) (v := .bool (decide ((t.size : Int) ≤ m.room - (u : Int)))) rfl (by kernel_rfl) (by kernel_rfl) (by kernel_rfl) (put_panic res_write 20 (by decide) _) (Or.inl ⟨by rfl, fun _ => by first | (go_simp; done) | (go_simp; simp [hsub, hsub2]; done)⟩) ?_
  refine wpAny_ready (rs := [10]) (by kernel_rfl) (by simp) ?_
  refine AllReady.cons rfl (fun K hK => ?_) AllReady.nil
  go_simp
  go_wp2_with (first | (go_at_call 34; (try rw [hdec]); refine (check_ok _ _).mono ?_; rintro e w5 ⟨rfl, rfl⟩) | go_in)
  refine wpAny_done (by kernel_rfl) ?_ _
  go_wp2_with (first
   | (go_at_call 36; refine (p_spend_ok PP2.out hp hp1 hp2).mono ?_; rintro e w3 ⟨rfl, pp3, ht3⟩; have PP3 := Lib.hid pp3; have T3 := Lib.hid (show Tch (foot bp x Lv) w w3 from (T2.out.mono (fun _ h _ => h.elim)).trans ht3 (fun k hk => .inl (hk ▸ .inl rfl))); have he3 : w3.heap[w.heap.size]? = some (eC 0) := ht3.keep he2 (fun e => by have := HLT.out bp (.inl rfl); omega); obtain ⟨A, c, hbv, f0, f1, z0, z1⟩ := pp3.cells hk; have HBV := Lib.hid hbv; have HB := Lib.hid (show w3.ownsRow 0 5 1 (.slice A (fileAt m.files k).all.length c) (fileAt m.files k).all.length (Lib.byteCells (fileAt m.files k).all) from (by rw [← hbv]; exact pp3.bytes k hk)); clear hbv; clear pp3 ht3)
   | (at_builtin; refine wpList_append_str rfl _ _ rfl (.slice A (fileAt m.files k).all.length c) (fileAt m.files k).all.length _ rfl HB.out t rfl hsum ?_; intro v4 w4 hown4 hgr4 hloc4; obtain ⟨A4, cc4, rfl⟩ := row_slice hown4; have HW := Lib.hid (write_done PP3.out hk t _ hown4 (by rw [HBV.out]; exact hgr4) (by rw [HBV.out]; exact hloc4)); have hfb4 : w4.heap[x.fb k]? = some (fileC (x.bv k) (fileAt m.files k).safe.length) := (hgr4.block _ (blk_lt (PP3.out.file k hk)) (fun e => by obtain ⟨_, e2⟩ := row_block HB.out e.symm; exact cells_ne (PP3.out.file k hk) e2 (by decide) rfl)).trans (PP3.out.file k hk); have he4 : w4.heap[w.heap.size]? = some (eC 0) := (hgr4.block _ (blk_lt he3) (fun e => by obtain ⟨_, e2⟩ := row_block HB.out e.symm; exact cells_ne he3 e2 (by decide) rfl)).trans he3; have f4 : w4.cell? ⟨x.fb k, 0, none⟩ = some (x.bv k) := cell_at hfb4 0; have z4 : w4.frozen? ⟨x.fb k, 0, none⟩ = false := melt_at hfb4 0; have nb : ¬ x.fb k = w.heap.size := cells_ne hfb4 he4 (by decide); have nb2 : ¬ w.heap.size = x.fb k := (fun e => nb e.symm); have ce4 : w4.cell? ⟨w.heap.size, 0, none⟩ = some (.int .i64 0) := cell_at he4 0; have fe4 : w4.frozen? ⟨w.heap.size, 0, none⟩ = false := melt_at he4 0; clear hown4 hgr4 hloc4)
   | go_in)
  have he := (set_other (w := w4) 0 (.slice A4 ((fileAt m.files k).all.length + t.size) cc4) nb2).trans he4
  refine leaves_cons (f := 33) (args := #[.pointer (some ⟨w.heap.size, 0, none⟩)]) (by simp) (by simp [go_sem]) ?_
  refine (caught_idle ⟨w.heap.size, 0, none⟩ _).mono ?_
  rintro e u' w'' ⟨rfl, rfl, rfl⟩
  have hr : (World.setCell _ ⟨w.heap.size, 0, none⟩ (Value.int .i64 0)).cell? ⟨w.heap.size, 0, none⟩ = some (.int .i64 0) := cell_at (set_same he 0 (.int .i64 0)) 0
  simp [Leaves, settle, results, Tryz.results11, go_sem, hr]
  exact (Res.after T3.out HW.out).store (Nat.le_refl _) ⟨0, he⟩ _ 0
end Go.Proofs.YtfpbpakgajddnaaGreatDoor.Pl
/- Iter -/
namespace Go.Proofs
open Go.Shelf
def Tryz.keys72_ren : Go.Shelf.Ren := ⟨fun | 7 => 72 | 10 => 118 | n => n, fun | 23 => 77 | 26 => 9 | 3 => 76 | 28 => 123 | 0 => 0 | 27 => 122 | 33 => 75 | 4 => 4 | n => n, fun | n => n⟩
theorem Tryz.keys72 : Go.Proofs.SlLaysZ.n7 Tryz.prog Tryz.keys72_ren := {
  mixed := by kernel_rfl
  f7 := ⟨Tryz.f72.name, by decide, Tryz.func72.trans (congrArg some (by kernel_rfl))⟩
  f10 := ⟨Tryz.f118.name, by decide, Tryz.func118.trans (congrArg some (by kernel_rfl))⟩
  t0 := Tryz.underlying0
  a0 := Tryz.isAgg0
  z0 := Tryz.sizeOf0
  v0 := Tryz.zeroValue0
  t4 := Tryz.underlying4
  a4 := Tryz.isAgg4
  z4 := Tryz.sizeOf4
  v4 := Tryz.zeroValue4
  t23 := Tryz.underlying77
  a23 := Tryz.isAgg77
  z23 := Tryz.sizeOf77
  v23 := Tryz.zeroValue77
  t26 := Tryz.underlying9
  a26 := Tryz.isAgg9
  z26 := Tryz.sizeOf9
  v26 := Tryz.zeroValue9
  t27 := Tryz.underlying122
  a27 := Tryz.isAgg122
  z27 := Tryz.sizeOf122
  v27 := Tryz.zeroValue122
  t28 := Tryz.underlying123
  a28 := Tryz.isAgg123
  z28 := Tryz.sizeOf123
  v28 := Tryz.zeroValue123
  t33 := Tryz.underlying75
  a33 := Tryz.isAgg75
  z33 := Tryz.sizeOf75
  v33 := Tryz.zeroValue75 }
def Tryz.sorted71_ren : Go.Shelf.Ren := ⟨fun | 6 => 71 | 8 => 116 | 9 => 117 | 11 => 142 | 13 => 144 | 12 => 143 | 23 => 168 | 24 => 169 | 14 => 159 | 15 => 160 | 16 => 161 | 17 => 162 | 18 => 163 | 19 => 164 | 20 => 165 | 21 => 166 | 22 => 167 | 25 => 183 | 26 => 184 | 27 => 185 | 28 => 186 | 29 => 187 | 30 => 188 | 31 => 201 | n => n, fun | 26 => 9 | 28 => 123 | 24 => 41 | 0 => 0 | 3 => 3 | 37 => 167 | 48 => 166 | 50 => 200 | 4 => 4 | 40 => 193 | 39 => 192 | 45 => 117 | 5 => 5 | 9 => 9 | 51 => 215 | 55 => 219 | 57 => 231 | 58 => 232 | 33 => 75 | n => n, fun | n => n⟩
theorem Tryz.sorted71 : Go.Proofs.SlLaysZ.n6 Tryz.prog Tryz.sorted71_ren := {
  mixed := by kernel_rfl
  f6 := ⟨Tryz.f71.name, by decide, Tryz.func71.trans (congrArg some (by kernel_rfl))⟩
  f8 := ⟨Tryz.f116.name, by decide, Tryz.func116.trans (congrArg some (by kernel_rfl))⟩
  f11 := ⟨Tryz.f142.name, by decide, Tryz.func142.trans (congrArg some (by kernel_rfl))⟩
  t0 := Tryz.underlying0
  a0 := Tryz.isAgg0
  z0 := Tryz.sizeOf0
  v0 := Tryz.zeroValue0
  t24 := Tryz.underlying41
  a24 := Tryz.isAgg41
  z24 := Tryz.sizeOf41
  v24 := Tryz.zeroValue41
  t26 := Tryz.underlying9
  a26 := Tryz.isAgg9
  z26 := Tryz.sizeOf9
  v26 := Tryz.zeroValue9
  t28 := Tryz.underlying123
  a28 := Tryz.isAgg123
  z28 := Tryz.sizeOf123
  v28 := Tryz.zeroValue123
  i26 := by kernel_rfl }
def Tryz.sort117_ren : Go.Shelf.Ren := ⟨fun | 6 => 117 | 8 => 144 | 9 => 143 | 19 => 168 | 20 => 169 | 21 => 159 | 22 => 160 | 23 => 161 | 24 => 162 | 25 => 163 | 26 => 164 | 27 => 165 | 28 => 166 | 29 => 167 | 36 => 183 | 31 => 184 | 32 => 185 | 37 => 186 | 38 => 187 | 39 => 188 | 41 => 201 | n => n, fun | 27 => 41 | 29 => 9 | 3 => 3 | 32 => 167 | 26 => 41 | 0 => 0 | 44 => 166 | 46 => 200 | 4 => 4 | 36 => 193 | 35 => 192 | 41 => 117 | 5 => 5 | 9 => 9 | 53 => 215 | 57 => 219 | 63 => 231 | 64 => 232 | n => n, fun | n => n⟩
theorem Tryz.sort117 : Go.Proofs.SlLaysM.n6 Tryz.prog Tryz.sort117_ren := {
  mixed := by kernel_rfl
  f6 := ⟨Tryz.f117.name, by decide, Tryz.func117.trans (congrArg some (by kernel_rfl))⟩
  f8 := Tryz.func144.trans (congrArg some (by kernel_rfl))
  f9 := ⟨Tryz.f143.name, by decide, Tryz.func143.trans (congrArg some (by kernel_rfl))⟩
  f19 := Tryz.func168.trans (congrArg some (by kernel_rfl))
  f20 := Tryz.func169.trans (congrArg some (by kernel_rfl))
  f21 := ⟨Tryz.f159.name, by decide, Tryz.func159.trans (congrArg some (by kernel_rfl))⟩
  f22 := ⟨Tryz.f160.name, by decide, Tryz.func160.trans (congrArg some (by kernel_rfl))⟩
  f23 := ⟨Tryz.f161.name, by decide, Tryz.func161.trans (congrArg some (by kernel_rfl))⟩
  f24 := ⟨Tryz.f162.name, by decide, Tryz.func162.trans (congrArg some (by kernel_rfl))⟩
  f25 := ⟨Tryz.f163.name, by decide, Tryz.func163.trans (congrArg some (by kernel_rfl))⟩
  f26 := ⟨Tryz.f164.name, by decide, Tryz.func164.trans (congrArg some (by kernel_rfl))⟩
  f27 := ⟨Tryz.f165.name, by decide, Tryz.func165.trans (congrArg some (by kernel_rfl))⟩
  f28 := ⟨Tryz.f166.name, by decide, Tryz.func166.trans (congrArg some (by kernel_rfl))⟩
  f29 := ⟨Tryz.f167.name, by decide, Tryz.func167.trans (congrArg some (by kernel_rfl))⟩
  f31 := Tryz.func184.trans (congrArg some (by kernel_rfl))
  f32 := Tryz.func185.trans (congrArg some (by kernel_rfl))
  f36 := ⟨Tryz.f183.name, by decide, Tryz.func183.trans (congrArg some (by kernel_rfl))⟩
  f37 := ⟨Tryz.f186.name, by decide, Tryz.func186.trans (congrArg some (by kernel_rfl))⟩
  f38 := ⟨Tryz.f187.name, by decide, Tryz.func187.trans (congrArg some (by kernel_rfl))⟩
  f39 := ⟨Tryz.f188.name, by decide, Tryz.func188.trans (congrArg some (by kernel_rfl))⟩
  f41 := ⟨Tryz.f201.name, by decide, Tryz.func201.trans (congrArg some (by kernel_rfl))⟩
  t0 := Tryz.underlying0
  a0 := Tryz.isAgg0
  z0 := Tryz.sizeOf0
  v0 := Tryz.zeroValue0
  t3 := Tryz.underlying3
  a3 := Tryz.isAgg3
  z3 := Tryz.sizeOf3
  v3 := Tryz.zeroValue3
  t4 := Tryz.underlying4
  a4 := Tryz.isAgg4
  z4 := Tryz.sizeOf4
  v4 := Tryz.zeroValue4
  t5 := Tryz.underlying5
  a5 := Tryz.isAgg5
  z5 := Tryz.sizeOf5
  v5 := Tryz.zeroValue5
  t9 := Tryz.underlying9
  a9 := Tryz.isAgg9
  z9 := Tryz.sizeOf9
  v9 := Tryz.zeroValue9
  t26 := Tryz.underlying41
  a26 := Tryz.isAgg41
  z26 := Tryz.sizeOf41
  v26 := Tryz.zeroValue41
  t27 := Tryz.underlying41
  a27 := Tryz.isAgg41
  z27 := Tryz.sizeOf41
  v27 := Tryz.zeroValue41
  t29 := Tryz.underlying9
  a29 := Tryz.isAgg9
  z29 := Tryz.sizeOf9
  v29 := Tryz.zeroValue9
  t32 := Tryz.underlying167
  a32 := Tryz.isAgg167
  z32 := Tryz.sizeOf167
  v32 := Tryz.zeroValue167
  t35 := Tryz.underlying192
  a35 := Tryz.isAgg192
  z35 := Tryz.sizeOf192
  v35 := Tryz.zeroValue192
  t36 := Tryz.underlying193
  a36 := Tryz.isAgg193
  z36 := Tryz.sizeOf193
  v36 := Tryz.zeroValue193
  t41 := Tryz.underlying117
  a41 := Tryz.isAgg117
  z41 := Tryz.sizeOf117
  v41 := Tryz.zeroValue117
  t44 := Tryz.underlying166
  a44 := Tryz.isAgg166
  z44 := Tryz.sizeOf166
  v44 := Tryz.zeroValue166
  t46 := Tryz.underlying200
  a46 := Tryz.isAgg200
  z46 := Tryz.sizeOf200
  v46 := Tryz.zeroValue200
  t53 := Tryz.underlying215
  a53 := Tryz.isAgg215
  z53 := Tryz.sizeOf215
  v53 := Tryz.zeroValue215
  t57 := Tryz.underlying219
  a57 := Tryz.isAgg219
  z57 := Tryz.sizeOf219
  v57 := Tryz.zeroValue219
  t63 := Tryz.underlying231
  a63 := Tryz.isAgg231
  z63 := Tryz.sizeOf231
  v63 := Tryz.zeroValue231
  t64 := Tryz.underlying232
  a64 := Tryz.isAgg232
  z64 := Tryz.sizeOf232
  v64 := Tryz.zeroValue232 }
def Tryz.clone69_ren : Go.Shelf.Ren := ⟨fun | 5 => 69 | 7 => 113 | n => n, fun | 23 => 77 | 25 => 9 | 3 => 76 | 4 => 4 | 20 => 20 | n => n, fun | n => n⟩
theorem Tryz.clone69 : Go.Proofs.SlLaysW.n5 Tryz.prog Tryz.clone69_ren := {
  mixed := by kernel_rfl
  f5 := ⟨Tryz.f69.name, by decide, Tryz.func69.trans (congrArg some (by kernel_rfl))⟩
  f7 := Tryz.func113.trans (congrArg some (by kernel_rfl))
  t4 := Tryz.underlying4
  a4 := Tryz.isAgg4
  z4 := Tryz.sizeOf4
  v4 := Tryz.zeroValue4
  t20 := Tryz.underlying20
  a20 := Tryz.isAgg20
  z20 := Tryz.sizeOf20
  v20 := Tryz.zeroValue20
  t23 := Tryz.underlying77
  a23 := Tryz.isAgg77
  z23 := Tryz.sizeOf77
  v23 := Tryz.zeroValue77 }
open Go.RowKit Go.Maps Go.Sort Go.Shelf
theorem Tryz.sorts71 (m : Nat) : AnyZ.SortsIn Tryz.prog Tryz.sorted71_ren Fence.wide m :=
  ⟨fun blk off cap ss W hH hblk hsz => callsIn_wide.2 (AnyM.slices_Sort_string Tryz.sort117 blk off cap ss W hH hblk hsz),
   fun p cap W => callsIn_wide.2 (AnyM.slices_Sort_string_none Tryz.sort117 p cap W)⟩
theorem Tryz.maps_Keys_72 (mb : Option Nat) (W : World) : CallsIn Fence.wide 5 Tryz.prog 72 #[.map mb] W fun e w' => e = .returned (.func (.func 118) #[] #[.pointer (some ⟨W.heap.size, 0, none⟩)]) ∧ w' = W.alloc (.cells #[.map mb] 77) :=
  AnyZ.keys_in Tryz.keys72 Fence.wide 5 trivial rfl mb W
set_option maxHeartbeats 1000000 in
theorem Tryz.slices_Sorted_keys_71_72 {H : Type} (b nn : Nat) (D0 : DataW H) (R : Value → Option (DataW H × List MemPlace)) (w : World) (hown : w.ownsMap Tryz.prog 9 R b nn D0) (hmax : Maps.size D0 ≤ maxLen) (hbytes : Maps.size D0 * 16 ≤ 140737488355328) :
    CallsIn Fence.wide 5 Tryz.prog 71 #[.func (.func 118) #[] #[.pointer (some ⟨w.heap.size, 0, none⟩)]] (w.alloc (.cells #[.map (some b)] 77)) fun e w' => ∃ (v : Value) (ss : List (List UInt8)), e = .returned v ∧ ss.Perm (strKeys D0) ∧
      w'.ownsRow (w.alloc (.cells #[.map (some b)] 77)).heap.size 9 1 v ss.length ((ss.mergeSort (fun x y => decide (x ≤ y))).map encStr) ∧ (v = .slice none 0 0 ↔ ss = []) ∧ Below (w.alloc (.cells #[.map (some b)] 77)).heap.size (w.alloc (.cells #[.map (some b)] 77)) w' := by
  have hbl := hown.lt
  have hseq : SeqGives Fence.wide 2 Tryz.prog 118 #[.pointer (some ⟨w.heap.size, 0, none⟩)] encStr (fun ss => ss.Perm (strKeys D0)) (Maps.size D0) (w.alloc (.cells #[.map (some b)] 77)) :=
    AnyZ.keys_gives (ρ := Tryz.keys72_ren) { Tryz.keys72 with } Fence.wide _ trivial rfl (by omega) w.heap.size b nn D0 _ (by simp) (by simp) (by
      obtain ⟨es, clock, hb, Ft, hs, hD⟩ := hown
      exact ⟨es, clock, (Below.heap_alloc _ _ b hbl).trans hb, Ft, hs, hD⟩)
  exact AnyZ.sorted_in Tryz.sorted71 Fence.wide 5 trivial trivial trivial trivial rfl (by omega) (Tryz.sorts71 _) (enters_of Tryz.func117 (by kernel_rfl) rfl) 118 #[.pointer (some ⟨w.heap.size, 0, none⟩)] trivial (enters_of Tryz.func118 (by kernel_rfl) rfl) _ _ hmax hbytes _ hseq
end Go.Proofs
/- PlV -/
namespace Go.Proofs.YtfpbpakgajddnaaGreatDoor.Pl
open Go Go.RowKit Go.Maps Go.Sort Go.Shelf Go.Proofs.YtfpbpakgajddnaaGreatDoorW.PrintWords
set_option linter.unusedVariables false
set_option linter.unusedSimpArgs false
set_option maxRecDepth 100000 in
/-- A row of bytes as a text. -/
theorem bytes_text {w : World} {v : Value} {l : L} (h : w.ownsRow 0 5 1 v l.length (Lib.byteCells l)) : (convert 63 9 v).run Tryz.prog w = .ok (.string (mkB l)) w := by
 rcases h.2 with ⟨rfl, h0⟩ | ⟨g, cap, cur, rfl, _, hg, _, _, _, htake⟩
 ·have : l = [] := List.eq_nil_of_length_eq_zero h0
  subst this
  exact run_convert_bytes_nil w 63 5 Tryz.underlying63 Tryz.underlying5 0 0 9 Tryz.underlying9
 ·have hx := run_convert_bytes_arg (P := Tryz.prog) w 63 5 Tryz.underlying63 Tryz.underlying5 g 0 l.length cap (l.map fun b => (b.toNat : Int)) (by simp) (fun i hi => by
   rw [cell_at hg, Nat.zero_add]
   have h2 : (cur.toList.take (l.length * 1))[i]? = (Lib.byteCells l)[i]? := by rw [htake]
   rw [List.getElem?_take, if_pos (by omega)] at h2
   rw [← Array.getElem?_toList, h2]
   simp [Lib.byteCells, List.getD_eq_getElem?_getD, List.getElem?_eq_getElem hi]) 9 Tryz.underlying9
  rw [hx]
  congr 2
  simp only [strOfNums, mkB, List.map_map]
  congr 2
  conv => rhs; rw [← List.map_id l]
  exact List.map_congr_left (fun b _ => by simp)
set_option maxRecDepth 100000 in
set_option maxHeartbeats 2000000 in
theorem readW_none {bp : Nat} {m : Mach} {x : Pt} {Lv : Nat → Prop} (s : ByteArray) {w : World} (pp0 : PP w bp m x Lv) (hs : s.size ≤ maxLen) (hl : look m.now s.data.toList = none) :
  Calls Tryz.prog 47 #[.pointer (some ⟨bp, 0, none⟩), .string s] w fun e w' => e = .returned (.tuple #[.string ByteArray.empty, .int .i64 10]) ∧ Tch (fun _ => False) w w' := by
 have T1 : Tch (fun _ => False) w (w.alloc (eC 0)) := Tch.alloc _ w _
 have PP0 := Lib.hid (pp0.tch T1)
 have he := alloc_new w (eC 0)
 clear pp0
 go_enter_defers Tryz.func47, Tryz.ntmps47
 go_wp2_with (first
  | (go_at_call 38; refine (p_file_no PP0.out s hs hl).mono ?_; rintro e w2 ⟨rfl, rfl⟩)
  | go_in)
 refine leaves_cons (f := 33) (args := #[.pointer (some ⟨w.heap.size, 0, none⟩)]) (by simp) (by simp [go_sem]) ?_
 refine (caught_panicking ⟨w.heap.size, 0, none⟩ 0 10 _ (cell_at he 0) (melt_at he 0)).mono ?_
 rintro e u' w'' ⟨rfl, rfl, rfl⟩
 have hr : (World.setCell _ ⟨w.heap.size, 0, none⟩ (Value.int .i64 10)).cell? ⟨w.heap.size, 0, none⟩ = some (.int .i64 10) := cell_at (set_same he 0 (.int .i64 10)) 0
 simp [Leaves, settle, results, Tryz.results47, go_sem, hr]
 exact ⟨rfl, T1.andSet _ (.inr (Nat.le_refl _))⟩
set_option maxRecDepth 100000 in
set_option maxHeartbeats 2000000 in
theorem readW_ok {bp : Nat} {m : Mach} {x : Pt} {Lv : Nat → Prop} (s : ByteArray) (k : Nat) {w : World} (pp0 : PP w bp m x Lv) (hs : s.size ≤ maxLen) (hl : look m.now s.data.toList = some k) :
  Calls Tryz.prog 47 #[.pointer (some ⟨bp, 0, none⟩), .string s] w fun e w' => e = .returned (.tuple #[.string (mkB (fileAt m.files k).all), .int .i64 0]) ∧ Tch (fun _ => False) w w' := by
 have T1 : Tch (fun _ => False) w (w.alloc (eC 0)) := Tch.alloc _ w _
 have pp1 := pp0.tch T1
 have PP0 := Lib.hid pp1
 have hk := pp0.live k (live_now (look_mem hl))
 have he := alloc_new w (eC 0)
 obtain ⟨A, c, hbv, f0, f1, z0, z1⟩ := pp1.cells hk
 have hrun := bytes_text (by rw [← hbv]; exact pp1.bytes k hk : (w.alloc (eC 0)).ownsRow 0 5 1 (.slice A (fileAt m.files k).all.length c) (fileAt m.files k).all.length (Lib.byteCells (fileAt m.files k).all))
 have ce : (w.alloc (eC 0)).cell? ⟨w.heap.size, 0, none⟩ = some (.int .i64 0) := cell_at he 0
 have fe : (w.alloc (eC 0)).frozen? ⟨w.heap.size, 0, none⟩ = false := melt_at he 0
 clear pp0 pp1 hbv
 go_enter_defers Tryz.func47, Tryz.ntmps47
 go_wp2_with (first
  | (go_at_call 38; refine (p_file_ok PP0.out s hs hl).mono ?_; rintro e w2 ⟨rfl, rfl⟩)
  | go_in)
 refine leaves_cons (f := 33) (args := #[.pointer (some ⟨w.heap.size, 0, none⟩)]) (by simp) (by simp [go_sem]) ?_
 refine (caught_idle ⟨w.heap.size, 0, none⟩ _).mono ?_
 rintro e u' w'' ⟨rfl, rfl, rfl⟩
 have hr : (World.setCell _ ⟨w.heap.size, 0, none⟩ (Value.int .i64 0)).cell? ⟨w.heap.size, 0, none⟩ = some (.int .i64 0) := cell_at (set_same he 0 (.int .i64 0)) 0
 simp [Leaves, settle, results, Tryz.results47, go_sem, hr]
 exact T1.andSet _ (.inr (Nat.le_refl _))
theorem limitW {bp : Nat} {m : Mach} {x : Pt} {Lv : Nat → Prop} (n : Int) {w : World} (pp : PP w bp m x Lv) :
  Calls Tryz.prog 23 #[.pointer (some ⟨bp, 0, none⟩), .int .i64 n] w fun e w' => e = .returned (.tuple #[]) ∧ w' = w.setCell ⟨bp, 3, none⟩ (.int .i64 (max n (-1))) := by
 have c3 : w.cell? ⟨bp, 3, none⟩ = some (.int .i64 m.power) := cell_at pp.top 3
 have f3 : w.frozen? ⟨bp, 3, none⟩ = false := melt_at pp.top 3
 clear pp
 go_enter Tryz.func23, Tryz.ntmps23
 go_wp2
 all_goals (go_end0; refine ⟨rfl, ?_⟩; congr 2 <;> omega)
theorem fresh_pp (w : World) (room : Int) : PP (((w.alloc (.map #[] 0)).alloc (.map #[] 0)).alloc (topC (.map (some w.heap.size)) (.map (some (w.heap.size + 1))) (.slice none 0 0) (-1) room)) (w.heap.size + 1 + 1) (fresh room) ⟨w.heap.size, w.heap.size + 1, .slice none 0 0, fun _ => 0, fun _ => .slice none 0 0⟩ (fun _ => False) := by
 have hs1 : (w.alloc (.map #[] 0)).heap.size = w.heap.size + 1 := by show (Array.push _ _).size = _; rw [Array.size_push]
 have hs2 : ((w.alloc (.map #[] 0)).alloc (.map #[] 0)).heap.size = w.heap.size + 1 + 1 := by show (Array.push _ _).size = _; rw [Array.size_push, hs1]
 have t := alloc_new ((w.alloc (.map #[] 0)).alloc (.map #[] 0)) (topC (.map (some w.heap.size)) (.map (some (w.heap.size + 1))) (.slice none 0 0) (-1) room)
 rw [hs2] at t
 have m1 := ((World.ownsMap_made w Tryz.prog 9 rawE).alloc (.map #[] 0)).alloc (topC (.map (some w.heap.size)) (.map (some (w.heap.size + 1))) (.slice none 0 0) (-1) room)
 have m2 := (World.ownsMap_made (w.alloc (.map #[] 0)) Tryz.prog 9 rawE).alloc (topC (.map (some w.heap.size)) (.map (some (w.heap.size + 1))) (.slice none 0 0) (-1) room)
 rw [hs1] at m2
 exact ⟨t, m1, m2, World.ownsRow_nil _ _ _ _, fun k h => h.elim, fun k h => h.elim, by show w.heap.size ≠ w.heap.size + 1; omega, fun k j h => h.elim, fun k j b h => h.elim, fun k h => by
  rcases h with ⟨n, h⟩ | ⟨n, h⟩ <;> simp [fresh] at h, fun k h => h.elim⟩
theorem newW_ok (room : Int) (w : World) (h0 : 0 ≤ room) (h1 : room ≤ 4194304) :
  Calls Tryz.prog 19 #[.int .i64 room] w fun e w' => ∃ bp, e = .returned (.tuple #[.pointer (some ⟨bp, 0, none⟩), .int .i64 0]) ∧ w.heap.size ≤ bp ∧ Plate w' bp (fresh room) (fun i => w.heap.size ≤ i ∧ i < w'.heap.size) ∧ Tch (fun _ => False) w w' := by
 have hmm := @run_makeMap Tryz.prog
 have g0 : ¬ room < 0 := by omega
 have g1 : ¬ room > 4194304 := by omega
 go_enter Tryz.func19, Tryz.ntmps19
 go_wp2
 go_ret2
 have pp := fresh_pp w room
 refine ⟨w.heap.size + 1 + 1, rfl, by omega, ⟨_, _, pp, fun i hi => ⟨?_, pp.lt hi⟩⟩, ((Tch.alloc _ w _).andAlloc _).andAlloc _⟩
 rcases hi with rfl | rfl | rfl | hi | ⟨k, hk, _⟩
 ·omega
 ·exact Nat.le_refl _
 ·show w.heap.size ≤ w.heap.size + 1
  omega
 ·cases hi
 ·exact hk.elim
theorem p_clone {bp : Nat} {m : Mach} {x : Pt} {Lv : Nat → Prop} {w : World} (pp : PP w bp m x Lv) :
  Calls Tryz.prog 69 #[.map (some x.bn)] w fun e w' => e = .returned (.map (some w.heap.size)) ∧ OwnDir w' w.heap.size x.K m.now ∧ Below w.heap.size w w' := by
 refine (AnyW.maps_Clone_owns Tryz.clone69 9 rawE x.bn m.now.length (dirD x.K m.now) w pp.now).mono ?_
 rintro e w' ⟨he, h1, _, hb⟩
 exact ⟨he, h1, hb⟩
theorem syncDir_done {bp nb : Nat} {m : Mach} {x : Pt} {Lv : Nat → Prop} {w w1 : World} (pp : PP w bp m x Lv) (ho : OwnDir w1 nb x.K m.now) (hb : Below w.heap.size w w1) (hnb : w.heap.size ≤ nb) :
  Res w ((w1.setCell ⟨bp, 0, none⟩ (.map (some nb))).setCell ⟨bp, 2, none⟩ (.slice none 0 0)) bp { m with safe := m.now, steps := [] } x Lv := by
 have pp1 := pp.tch (.of_below hb)
 obtain ⟨n1, n2, n3, n4⟩ := pp1.bp_ne
 have hnbp : nb ≠ bp := by have := blk_lt pp.top; omega
 have hne : nb ≠ x.bn := by have := pp.lt (.inr (.inr (.inl rfl))); omega
 have two : ∀ {i : Nat}, i ≠ bp → ((w1.setCell ⟨bp, 0, none⟩ (.map (some nb))).setCell ⟨bp, 2, none⟩ (.slice none 0 0)).heap[i]? = w1.heap[i]? := fun h => (set_other 2 _ h).trans (set_other 0 _ h)
 refine ⟨{ x with bs := nb, st := .slice none 0 0 }, Lv, ⟨?_, map_move ho (two hnbp), ?_, World.ownsRow_nil _ _ _ _, fun k hk => (two (n4 k hk).1).trans (pp1.file k hk), fun k hk => own_move (pp1.bytes k hk) (fun i hi => two (fun e => (n4 k hk).2 (e ▸ hi))), hne, pp1.fne, pp1.bne, fun k hk => ?_, pp1.kl⟩, ?_, fun i hi => ?_⟩
 ·exact set_same (set_same pp1.top 0 _) 2 _
 ·exact map_move pp1.now (two n2)
 ·rcases hk with ⟨n, hk⟩ | ⟨n, hk⟩
  ·exact pp1.live k (live_now hk)
  ·simp at hk
 ·exact ((Tch.of_below hb).andSet _ (.inl (.inl rfl))).andSet _ (.inl (.inl rfl))
 ·rcases hi with hi | hi | hi | hi | hi
  ·exact .inl (.inl hi)
  ·exact .inr (by rw [hi]; exact hnb)
  ·exact .inl (.inr (.inr (.inl hi)))
  ·cases hi
  ·exact .inl (.inr (.inr (.inr (.inr hi))))
end Go.Proofs.YtfpbpakgajddnaaGreatDoor.Pl
/- PlL -/
namespace Go.Proofs.YtfpbpakgajddnaaGreatDoor.Pl
open Go Go.RowKit Go.Maps Go.Sort Go.Shelf Go.Proofs.YtfpbpakgajddnaaGreatDoorW.PrintWords
set_option linter.unusedVariables false
set_option linter.unusedSimpArgs false
set_option maxRecDepth 100000 in
set_option maxHeartbeats 2000000 in
theorem syncdirW_dead {bp : Nat} {m : Mach} {x : Pt} {Lv : Nat → Prop}  {w : World} (pp0 : PP w bp m x Lv) (hp : m.power = 0) :
  Calls Tryz.prog 28 #[.pointer (some ⟨bp, 0, none⟩)] w fun e w' => e = .returned (.int .i64 13) ∧ Tch (fun _ => False) w w' := by
 have T1 : Tch (fun _ => False) w (w.alloc (eC 0)) := Tch.alloc _ w _
 have PP0 := Lib.hid (pp0.tch T1)
 have HLT := Lib.hid (fun i (hi : foot bp x Lv i) => pp0.lt hi)
 have he := alloc_new w (eC 0)
 clear pp0
 go_enter_defers Tryz.func28, Tryz.ntmps28
 go_wp2_with (first
  | (go_at_call 36; refine (p_spend_no PP0.out hp).mono ?_; rintro e w3 ⟨rfl, rfl⟩)
  | go_in)
 refine leaves_cons (f := 33) (args := #[.pointer (some ⟨w.heap.size, 0, none⟩)]) (by simp) (by simp [go_sem]) ?_
 refine (caught_panicking ⟨w.heap.size, 0, none⟩ 0 13 _ (cell_at he 0) (melt_at he 0)).mono ?_
 rintro e u' w'' ⟨rfl, rfl, rfl⟩
 have hr : (World.setCell _ ⟨w.heap.size, 0, none⟩ (Value.int .i64 13)).cell? ⟨w.heap.size, 0, none⟩ = some (.int .i64 13) := cell_at (set_same he 0 (.int .i64 13)) 0
 simp [Leaves, settle, results, Tryz.results28, go_sem, hr]
 exact T1.andSet _ (.inr (Nat.le_refl _))
set_option maxRecDepth 100000 in
set_option maxHeartbeats 2000000 in
theorem syncdirW_ok {bp : Nat} {m : Mach} {x : Pt} {Lv : Nat → Prop}  {w : World} (pp0 : PP w bp m x Lv) (hp : m.power ≠ 0) (hp1 : -1 ≤ m.power) (hp2 : m.power ≤ 9223372036854775807) :
  Calls Tryz.prog 28 #[.pointer (some ⟨bp, 0, none⟩)] w fun e w' => e = .returned (.int .i64 0) ∧ Res w w' bp { m with safe := m.now, steps := [], power := spend m.power } x Lv := by
 have T1 : Tch (fun _ => False) w (w.alloc (eC 0)) := Tch.alloc _ w _
 have PP0 := Lib.hid (pp0.tch T1)
 have HLT := Lib.hid (fun i (hi : foot bp x Lv i) => pp0.lt hi)
 have he := alloc_new w (eC 0)
 clear pp0
 go_enter_defers Tryz.func28, Tryz.ntmps28
 go_wp2_with (first
  | (go_at_call 36; refine (p_spend_ok PP0.out hp hp1 hp2).mono ?_; rintro e w3 ⟨rfl, pp3, ht3⟩; have PP3 := Lib.hid pp3; have T3 := Lib.hid (show Tch (foot bp x Lv) w w3 from (T1.mono (fun _ h _ => h.elim)).trans ht3 (fun k hk => .inl (hk ▸ .inl rfl))); have he3 : w3.heap[w.heap.size]? = some (eC 0) := ht3.keep he (fun e => by have := HLT.out bp (.inl rfl); omega); have d1 : w3.cell? ⟨bp, 1, none⟩ = some (.map (some x.bn)) := cell_at pp3.top 1; clear pp3 ht3)
  | (go_at_call 69; refine (p_clone PP3.out).mono ?_; rintro e w4 ⟨rfl, ho4, hb4⟩; have HO := Lib.hid ho4; have HB := Lib.hid hb4; have PP4 := Lib.hid (PP3.out.tch (Tch.of_below hb4)); have he4 : w4.heap[w.heap.size]? = some (eC 0) := (hb4.block _ (blk_lt he3)).trans he3; have k0 : w4.cell? ⟨bp, 0, none⟩ = some (.map (some x.bs)) := cell_at PP4.out.top 0; have k2 : w4.cell? ⟨bp, 2, none⟩ = some x.st := cell_at PP4.out.top 2; have y0 : w4.frozen? ⟨bp, 0, none⟩ = false := melt_at PP4.out.top 0; have y2 : w4.frozen? ⟨bp, 2, none⟩ = false := melt_at PP4.out.top 2; have nb : ¬ bp = w.heap.size := cells_ne PP4.out.top he4 (by decide); have nb2 : ¬ w.heap.size = bp := (fun e => nb e.symm); have ce4 : w4.cell? ⟨w.heap.size, 0, none⟩ = some (.int .i64 0) := cell_at he4 0; have fe4 : w4.frozen? ⟨w.heap.size, 0, none⟩ = false := melt_at he4 0; clear ho4 hb4)
  | go_in)
 have he := (set_other (w := w4.setCell ⟨bp, 0, none⟩ (.map (some w3.heap.size))) 2 (.slice none 0 0) nb2).trans ((set_other 0 _ nb2).trans he4)
 refine leaves_cons (f := 33) (args := #[.pointer (some ⟨w.heap.size, 0, none⟩)]) (by simp) (by simp [go_sem]) ?_
 refine (caught_idle ⟨w.heap.size, 0, none⟩ _).mono ?_
 rintro e u' w'' ⟨rfl, rfl, rfl⟩
 have hr : (World.setCell _ ⟨w.heap.size, 0, none⟩ (Value.int .i64 0)).cell? ⟨w.heap.size, 0, none⟩ = some (.int .i64 0) := cell_at (set_same he 0 (.int .i64 0)) 0
 simp [Leaves, settle, results, Tryz.results28, go_sem, hr]
 exact (Res.after T3.out (syncDir_done PP3.out HO.out HB.out (Nat.le_refl _))).store (Nat.le_refl _) ⟨0, he⟩ _ 0
set_option maxRecDepth 100000 in
set_option maxHeartbeats 2000000 in
theorem listW {bp : Nat} {m : Mach} {x : Pt} {Lv : Nat → Prop} {w : World} (pp0 : PP w bp m x Lv) (hs : Sorted m.now) (hn : m.now.length ≤ 1000000000) :
  Calls Tryz.prog 31 #[.pointer (some ⟨bp, 0, none⟩)] w fun e w' => ∃ v, e = .returned v ∧ w'.ownsRow w.heap.size 9 1 v m.now.length ((list m).map fun n => Value.string (mkB n)) ∧ Below w.heap.size w w' := by
 have c1 : w.cell? ⟨bp, 1, none⟩ = some (.map (some x.bn)) := cell_at pp0.top 1
 have HN := Lib.hid pp0.now
 have hmax : Maps.size (dirD x.K m.now) ≤ maxLen := by rw [dir_size]; unfold maxLen; omega
 have hby : Maps.size (dirD x.K m.now) * 16 ≤ 140737488355328 := by rw [dir_size]; omega
 clear pp0
 refine (callsIn_wide (n := 6)).1 ?_
 have hfK : Fence.wide.fn 72 := trivial
 have hfS : Fence.wide.fn 71 := trivial
 refine callsIn_of_wp Tryz.func31 rfl trivial ?_ rfl
 simp only [Tryz.ntmps31, List.size_toArray, List.length_cons, List.length_nil, Nat.reduceAdd, Nat.reduceSub, Array.replicate_succ, Array.replicate_zero, List.push_toArray, List.append_toArray, List.nil_append, List.cons_append]
 gi_wp2_with (first
  | (gi_at_call 72; refine (Tryz.maps_Keys_72 _ _).mono ?_; rintro e w' ⟨rfl, rfl⟩)
  | (gi_at_call 71; refine (Tryz.slices_Sorted_keys_71_72 x.bn m.now.length (dirD x.K m.now) rawE w HN.out hmax hby).mono ?_; rintro e w' ⟨v, ss, rfl, hS, hrow, hnil, hb⟩))
 go_ret
 rw [dir_keys] at hS
 rw [keys_sorted hs hS] at hrow
 have hlen : ss.length = m.now.length := by rw [hS.length_eq, List.length_map]
 rw [hlen] at hrow
 exact ⟨v, rfl, ownsRow_base_a hrow (by simp), ((Below.refl _ w).alloc (Nat.le_refl _) _).trans (hb.mono (by simp))⟩
end Go.Proofs.YtfpbpakgajddnaaGreatDoor.Pl
/- PlE -/
namespace Go.Proofs.YtfpbpakgajddnaaGreatDoor.Pl
open Go Go.RowKit Go.Maps Go.Proofs.YtfpbpakgajddnaaGreatDoorW.PrintWords
open Go.ChangeMaps (setBlock)
set_option linter.unusedVariables false
set_option linter.unusedSimpArgs false
def ptrV (a : Addr) : Value := .pointer (some a)
theorem ptrV_inj {a b : Addr} (h : ptrV a = ptrV b) : a = b := Option.some.inj (Value.pointer.inj h)
/-- Block b is a map whose keys are pointers to the addresses l. -/
def SetIs (w : World) (b : Nat) (l : List Addr) : Prop := ∃ es clock, w.heap[b]? = some (.map es clock) ∧ es.toList.map (·.key) = l.map ptrV ∧ l.Nodup ∧ (es.toList.map (·.born)).Nodup ∧ ∀ e ∈ es.toList, e.born < clock
/-- An address of a file's block. -/
def IsFile (w : World) (a : Addr) : Prop := a.off = 0 ∧ a.spot = none ∧ ∃ cs, w.heap[a.block]? = some (.cells cs 83 (0, 0))
theorem IsFile.eq {w : World} {a b : Addr} (ha : IsFile w a) (hb : IsFile w b) : (Op.equal 76 (ptrV a) (ptrV b)).run Tryz.prog w = .ok (decide (a = b)) w := by
 have hsz : (sizeOf 83).run Tryz.prog w = .ok 2 w := by kernel_rfl
 have h1 : (Op.equal 76 (ptrV a) (ptrV b)).run Tryz.prog w = (sameAddr a b).run Tryz.prog w := by
  change (Op.equalIn (9999 + 1) 76 (.pointer (some a)) (.pointer (some b))).run Tryz.prog w = _
  rw [Op.equalIn]
  simp only [run_underlying Tryz.underlying76, Sem.run_bind, Result.andThen, hsz]
  rfl
 rw [h1]
 obtain ⟨a1, a2, cs, a3⟩ := ha
 obtain ⟨b1, b2, ds, b3⟩ := hb
 by_cases e : a = b
 ·rw [e, run_sameAddr_same _ _, decide_eq_true rfl]
 ·rw [run_sameAddr_other _ e a3 b3, decide_eq_false e]
theorem find_set (w : World) (a : Addr) (ha : IsFile w a) : ∀ (es : List MapEntry) (l : List Addr) (i : Nat), es.map (·.key) = l.map ptrV → (∀ b ∈ l, IsFile w b) →
  (a ∉ l ∧ (Instr.findAsking 76 (ptrV a) es i).run Tryz.prog w = .ok none w) ∨ ∃ j e, es[j]? = some e ∧ e.key = ptrV a ∧ (Instr.findAsking 76 (ptrV a) es i).run Tryz.prog w = .ok (some (i + j, e.val)) w
 | [], l, i, h, _ => by
  have : l = [] := by cases l <;> simp_all
  subst this
  exact .inl ⟨by simp, by simp [Instr.findAsking]⟩
 | e :: es, [], i, h, _ => by simp at h
 | e :: es, b :: l, i, h, hl => by
  simp only [List.map_cons, List.cons.injEq] at h
  obtain ⟨h1, h2⟩ := h
  have heq := ha.eq (hl b List.mem_cons_self)
  by_cases hab : a = b
  ·right
   refine ⟨0, e, rfl, by rw [h1, hab], ?_⟩
   rw [Instr.findAsking, h1]
   simp only [Sem.run_bind, heq, Result.andThen, decide_eq_true hab, if_true]
   rfl
  ·rcases find_set w a ha es l (i + 1) h2 (fun c hc => hl c (List.mem_cons_of_mem _ hc)) with ⟨n1, n2⟩ | ⟨j, e', j1, j2, j3⟩
   ·left
    refine ⟨by simp [hab, n1], ?_⟩
    rw [Instr.findAsking, h1]
    simp only [Sem.run_bind, heq, Result.andThen, decide_eq_false hab]
    exact n2
   ·right
    refine ⟨j + 1, e', by simpa using j1, j2, ?_⟩
    rw [Instr.findAsking, h1]
    simp only [Sem.run_bind, heq, Result.andThen, decide_eq_false hab]
    rw [show i + (j + 1) = i + 1 + j by omega]
    exact j3
theorem find_key (w : World) (a : Addr) (es : List MapEntry) (l : List Addr) (h : es.map (·.key) = l.map ptrV) : (Instr.findKey 76 (ptrV a) es).run Tryz.prog w = (Instr.findAsking 76 (ptrV a) es 0).run Tryz.prog w := by
 unfold Instr.findKey
 simp only [run_underlying Tryz.underlying76, Sem.run_bind, Result.andThen]
 cases es with
 | nil => rfl
 | cons e es =>
  cases l with
  | nil => simp at h
  | cons b l =>
   simp only [List.map_cons, List.cons.injEq] at h
   have : Instr.findNow (.pointer 83) (ptrV a) (e :: es) 0 = none := by
    unfold Instr.findNow
    rw [h.1]
    rfl
   rw [this]
theorem check_key (w : World) (a : Addr) : (Instr.checkKey false 10000 76 (ptrV a)).run Tryz.prog w = .ok () w := by
 change (Instr.checkKey false (9999 + 1) 76 (.pointer (some a))).run Tryz.prog w = _
 rw [Instr.checkKey]
 simp only [run_underlying Tryz.underlying76, Sem.run_bind, Result.andThen]
 rfl
theorem set_add {w : World} {b : Nat} {l : List Addr} (h : SetIs w b l) {a : Addr} (ha : IsFile w a) (hl : ∀ c ∈ l, IsFile w c) (v : Value) :
  ∃ w', (Instr.mapUpdate 113 (.map (some b)) (ptrV a) v).run Tryz.prog w = .ok () w' ∧ SetIs w' b (if a ∈ l then l else l ++ [a]) ∧ w.grownBy w' (some b) := by
 obtain ⟨es, clock, hb, hk, hnd, hbn, hlt⟩ := h
 have hset : ∀ o', (setObj b o').run Tryz.prog w = .ok () (setBlock w b o') := fun o' => by simp [setObj, Sem.run, hb, setBlock]
 have hgrow : ∀ o', w.grownBy (setBlock w b o') (some b) := fun o' => ⟨rfl, rfl, rfl, by simp [setBlock], fun i _ hi => ChangeMaps.heap_setBlock_other hb _ (fun e => hi (by rw [e]))⟩
 have run0 : (Instr.mapUpdate 113 (.map (some b)) (ptrV a) v).run Tryz.prog w = ((Instr.findAsking 76 (ptrV a) es.toList 0).run Tryz.prog w).andThen (fun r w1 => (match r with
   | some (i, _) => do
    let key ← Instr.keyThatStays (((es[i]?).map (·.key)).getD (ptrV a)) (ptrV a)
    setObj b (.map (es.modify i fun e => { e with key, val := v }) clock)
   | none => setObj b (.map (es.push { key := ptrV a, val := v, born := clock }) (clock + 1)) : Sem Unit).run Tryz.prog w1) := by
  have hget : (getObj b).run Tryz.prog w = .ok (.map es clock) w := by simp [getObj, Sem.run, hb]
  unfold Instr.mapUpdate
  simp only [run_underlying Tryz.underlying113, Sem.run_bind, Result.andThen, hget, check_key w a, find_key w a es.toList l hk]
  rfl
 rcases find_set w a ha es.toList l 0 hk hl with ⟨hn, hr⟩ | ⟨j, e, hj, hke, hr⟩
 ·rw [hr] at run0
  simp only [Result.andThen, hset] at run0
  refine ⟨_, run0, ?_, hgrow _⟩
  rw [if_neg hn]
  refine ⟨_, _, ChangeMaps.heap_setBlock_same hb _, by simp [hk], List.nodup_append.2 ⟨hnd, by simp, ?_⟩, ?_, ?_⟩
  ·intro c hc d hd e
   rw [List.mem_singleton.1 hd] at e
   exact hn (e ▸ hc)
  ·rw [Array.toList_push, List.map_append]
   refine List.nodup_append.2 ⟨hbn, by simp, ?_⟩
   intro c hc d hd e
   obtain ⟨x, hx, rfl⟩ := List.mem_map.1 hc
   simp at hd
   have := hlt x hx
   omega
  ·intro x hx
   rw [Array.toList_push, List.mem_append] at hx
   rcases hx with hx | hx
   ·have := hlt x hx
    omega
   ·rw [List.mem_singleton.1 hx]
    show clock < clock + 1
    omega
 ·have hjl : j < es.toList.length := (List.getElem?_eq_some_iff.1 hj).1
  have hmem : a ∈ l := by
   have h2 : (l.map ptrV)[j]? = some (ptrV a) := by rw [← hk, List.getElem?_map, hj]; simp [hke]
   rw [List.getElem?_map] at h2
   obtain ⟨c, hc, e2⟩ := Option.map_eq_some_iff.1 h2
   have : c = a := ptrV_inj e2
   rw [← this]
   exact List.mem_of_getElem? hc
  have hje : es[j]? = some e := by rw [← Array.getElem?_toList]; exact hj
  rw [hr] at run0
  have hstay : (Instr.keyThatStays (ptrV a) (ptrV a)).run Tryz.prog w = .ok (ptrV a) w := by
   have : ∀ n, Instr.sameBits n (ptrV a) (ptrV a) = true := fun n => by cases n <;> simp [Instr.sameBits, ptrV]
   unfold Instr.keyThatStays
   rw [this 10000]
   rfl
  simp only [Result.andThen, Nat.zero_add, hje, Option.map_some, Option.getD_some, hke, Sem.run_bind, hstay, hset] at run0
  refine ⟨_, run0, ?_, hgrow _⟩
  rw [if_pos hmem]
  have hkeys : ((es.modify j fun e => { e with key := ptrV a, val := v }).toList.map (·.key)) = es.toList.map (·.key) := by
   apply List.ext_getElem?
   intro n
   rw [List.getElem?_map, List.getElem?_map, Array.getElem?_toList, Array.getElem?_modify, Array.getElem?_toList]
   split
   ·rename_i e2
    subst e2
    rw [hje]
    simp [hke]
   ·rfl
  have hborn : ((es.modify j fun e => { e with key := ptrV a, val := v }).toList.map (·.born)) = es.toList.map (·.born) := by
   apply List.ext_getElem?
   intro n
   rw [List.getElem?_map, List.getElem?_map, Array.getElem?_toList, Array.getElem?_modify, Array.getElem?_toList]
   split
   ·rename_i e2
    subst e2
    rw [hje]
    rfl
   ·rfl
  refine ⟨_, _, ChangeMaps.heap_setBlock_same hb _, hkeys.trans hk, hnd, by rw [hborn]; exact hbn, fun x hx => ?_⟩
  have : x.born ∈ es.toList.map (·.born) := by rw [← hborn]; exact List.mem_map.2 ⟨x, hx, rfl⟩
  obtain ⟨y, hy, e2⟩ := List.mem_map.1 this
  rw [← e2]
  exact hlt y hy
/-- A range over the set l is under way: 'left': which are still to come. -/
def SetGoes (w : World) (b r : Nat) (l : List Addr) (left : Addr → Bool) (cnt : Nat) : Prop := ∃ es clock since seen c0, w.heap[b]? = some (.map es clock) ∧ es.toList.map (·.key) = l.map ptrV ∧ l.Nodup ∧ (es.toList.map (·.born)).Nodup ∧
  w.heap[r]? = some (.mapIter (some b) since seen c0) ∧ (∀ x ∈ es.toList, x.born < since) ∧ since ≤ c0 ∧ since ≤ clock ∧ (leftOf es seen).size = cnt ∧ ∀ x ∈ es.toList, ∀ a, x.key = ptrV a → left a = !seen.contains x.born
theorem key_of {es : List MapEntry} {l : List Addr} (h : es.map (·.key) = l.map ptrV) {x : MapEntry} (hx : x ∈ es) : ∃ a, x.key = ptrV a ∧ a ∈ l := by
 have : x.key ∈ l.map ptrV := by rw [← h]; exact List.mem_map.2 ⟨x, hx, rfl⟩
 obtain ⟨a, ha, e⟩ := List.mem_map.1 this
 exact ⟨a, e.symm, ha⟩
theorem of_key {es : List MapEntry} {l : List Addr} (h : es.map (·.key) = l.map ptrV) {a : Addr} (ha : a ∈ l) : ∃ x ∈ es, x.key = ptrV a := by
 have : ptrV a ∈ es.map (·.key) := by rw [h]; exact List.mem_map.2 ⟨a, ha, rfl⟩
 obtain ⟨x, hx, e⟩ := List.mem_map.1 this
 exact ⟨x, hx, e⟩
theorem nd_inj {α : Type} {l : List α} (h : l.Nodup) {i j : Nat} (hi : i < l.length) (hj : j < l.length) : l[i] = l[j] ↔ i = j := by
 have hp := List.pairwise_iff_getElem.1 h
 constructor
 ·intro e
  rcases Nat.lt_trichotomy i j with h1 | h1 | h1
  ·exact absurd e (hp i j hi hj h1)
  ·exact h1
  ·exact absurd e.symm (hp j i hj hi h1)
 ·rintro rfl
  rfl
theorem same_entry {es : List MapEntry} {l : List Addr} (h : es.map (·.key) = l.map ptrV) (hn : l.Nodup) (hb : (es.map (·.born)).Nodup) {x y : MapEntry} (hx : x ∈ es) (hy : y ∈ es) : x.key = y.key ↔ x.born = y.born := by
 have hk : (es.map (·.key)).Nodup := by rw [h]; exact List.pairwise_map.2 (hn.imp (fun hab e => hab (ptrV_inj e)))
 obtain ⟨i, hi, rfl⟩ := List.getElem_of_mem hx
 obtain ⟨j, hj, rfl⟩ := List.getElem_of_mem hy
 have a1 := nd_inj hk (i := i) (j := j) (by simpa using hi) (by simpa using hj)
 have a2 := nd_inj hb (i := i) (j := j) (by simpa using hi) (by simpa using hj)
 simp only [List.getElem_map] at a1 a2
 rw [a1, a2]
theorem SetGoes.left_eq {w : World} {b r : Nat} {l : List Addr} {left : Addr → Bool} {cnt : Nat} (h : SetGoes w b r l left cnt) : w.rangeLeft b r = cnt := by
 obtain ⟨es, clock, since, seen, c0, hb, _, _, _, hr, _, _, _, hc, _⟩ := h
 simp only [World.rangeLeft, hb, hr]
 exact hc
theorem SetGoes.kept {w w' : World} {b r : Nat} {l : List Addr} {left : Addr → Bool} {cnt : Nat} (h : SetGoes w b r l left cnt) (h1 : w'.heap[b]? = w.heap[b]?) (h2 : w'.heap[r]? = w.heap[r]?) : SetGoes w' b r l left cnt := by
 obtain ⟨es, clock, since, seen, c0, hb, a1, a2, a3, hr, rest⟩ := h
 exact ⟨es, clock, since, seen, c0, h1.trans hb, a1, a2, a3, h2.trans hr, rest⟩
theorem SetGoes.blocks {w : World} {b r : Nat} {l : List Addr} {left : Addr → Bool} {cnt : Nat} (h : SetGoes w b r l left cnt) : ∃ es clock m s c d, w.heap[b]? = some (.map es clock) ∧ w.heap[r]? = some (.mapIter m s c d) := by
 obtain ⟨es, clock, since, seen, c0, hb, _, _, _, hr, _⟩ := h
 exact ⟨_, _, _, _, _, _, hb, hr⟩
theorem set_begin {w : World} {b : Nat} {l : List Addr} (h : SetIs w b l) : ∃ w', (Instr.range 113 (.map (some b))).run Tryz.prog w = .ok (.pointer (some ⟨w.heap.size, 0, none⟩)) w' ∧ SetGoes w' b w.heap.size l (fun _ => true) l.length ∧ w.grownBy w' none ∧ w'.heap.size = w.heap.size + 1 := by
 obtain ⟨es, clock, hb, hk, hnd, hbn, hlt⟩ := h
 have hbl := blk_lt hb
 refine ⟨_, run_range_map w 113 76 114 b es clock Tryz.underlying113 hb, ⟨es, clock, clock, #[], clock, (Below.heap_alloc _ _ _ hbl).trans hb, hk, hnd, hbn, alloc_new w _, hlt, Nat.le_refl _, Nat.le_refl _, ?_, fun x _ a _ => by simp⟩, World.grownBy_alloc w _ none, by simp⟩
 have : es.toList.length = l.length := by
  have := congrArg List.length hk
  simpa using this
 have e : leftOf es #[] = es := by unfold leftOf; exact Array.filter_eq_self.2 (fun x _ => by simp)
 rw [e, ← Array.length_toList]
 exact this
theorem set_next {w : World} {b r : Nat} {l : List Addr} {left : Addr → Bool} {cnt : Nat} (h : SetGoes w b r l left cnt) (ty : TypeId) :
  ((∀ a ∈ l, left a = false) ∧ (Instr.next (.pointer (some ⟨r, 0, none⟩)) false ty).run Tryz.prog w = .ok (.tuple #[.bool false]) w) ∨
  ∃ a v w' cnt', a ∈ l ∧ left a = true ∧ (Instr.next (.pointer (some ⟨r, 0, none⟩)) false ty).run Tryz.prog w = .ok (.tuple #[.bool true, ptrV a, v]) w' ∧ SetGoes w' b r l (fun x => left x && !decide (x = a)) cnt' ∧ cnt' < cnt ∧ w.grownBy w' (some r) ∧ w'.heap.size = w.heap.size ∧
   (Instr.entry (.pointer (some ⟨r, 0, none⟩))).run Tryz.prog w' = .ok (.tuple #[ptrV a, v]) w' := by
 obtain ⟨es, clock, since, seen, c0, hb, hk, hnd, hbn, hr, hold, hsc, hsk, hc, hl⟩ := h
 have hne : r ≠ b := by
  rintro rfl
  rw [hb] at hr
  cases hr
 rcases run_next_at (P := Tryz.prog) w ty r b since c0 seen es clock hr hb hold hsc with ⟨h0, hrun⟩ | ⟨e, he, w1, hal, hrun⟩
 ·refine .inl ⟨fun a ha => ?_, hrun⟩
  obtain ⟨x, hx, e⟩ := of_key hk ha
  rw [hl x hx a e, all_seen es seen h0 x hx]
  rfl
 ·obtain ⟨hem, hes⟩ := mem_left he
  obtain ⟨a, hka, hal2⟩ := key_of hk hem
  have hr1 : w1.heap[r]? = some (.mapIter (some b) since seen c0) := by rcases hal with rfl | rfl <;> exact hr
  have hb1 : w1.heap[b]? = some (.map es clock) := by rcases hal with rfl | rfl <;> exact hb
  have hset := MapKept.heap_set (o' := .mapIter (some b) since (seen.push e.born) clock) hr1
  have hb' : (setBlock w1 r (.mapIter (some b) since (seen.push e.born) clock)).heap[b]? = some (.map es clock) := (hset.2 b (fun e1 => hne e1.symm)).trans hb1
  refine .inr ⟨a, e.val, _, _, hal2, by rw [hl e hem a hka, hes]; rfl, by rw [← hka]; exact hrun, ⟨es, clock, since, seen.push e.born, clock, hb', hk, hnd, hbn, hset.1, hold, hsk, hsk, rfl, fun x hx c hxc => ?_⟩, by rw [← hc]; exact left_shrinks es seen e he, ?_, ?_, ?_⟩
  ·show (left c && !decide (c = a)) = _
   rw [hl x hx c hxc, contains_push]
   have h1 := same_entry hk hnd hbn hx hem
   rw [hxc, hka] at h1
   have h2 : (c = a) ↔ x.born = e.born := ⟨fun h => h1.1 (by rw [h]), fun h => ptrV_inj (h1.2 h)⟩
   by_cases hca : c = a
   ·rw [decide_eq_true hca]
    have : (x.born == e.born) = true := by simpa using h2.1 hca
    rw [this]
    simp
   ·rw [decide_eq_false hca]
    have : (x.born == e.born) = false := by simpa using fun h => hca (h2.2 h)
    rw [this]
    simp
  ·rcases hal with rfl | rfl <;> exact ⟨rfl, rfl, rfl, by simp [setBlock], fun i _ hi => hset.2 i (fun e1 => hi (by rw [e1]))⟩
  ·rcases hal with rfl | rfl <;> simp [setBlock]
  ·rw [← hka]
   exact run_entry_at _ r b since seen es clock e hset.1 hb' hem hbn
section
variable {w : World} {ops : Array Oper} {rest : List Oper} {o : Oper} {a : Act} {Q : Exit → Act → World → Prop}
theorem wpList_set_add (hg : o.guard = none) (m x v : Operand) (hop : o.op = Op.mapUpdate 113 m x v) {b : Nat} {l : List Addr} (hm : a.eval m = .map (some b)) (h : SetIs w b l) {ad : Addr} (hx : a.eval x = ptrV ad) (ha : IsFile w ad) (hl : ∀ c ∈ l, IsFile w c)
  (hK : ∀ w', SetIs w' b (if ad ∈ l then l else l ++ [ad]) → w.grownBy w' (some b) → wpList Tryz.prog ops Q rest (a.put o.dst undef) w') : wpList Tryz.prog ops Q (o :: rest) a w := by
 refine wpList_plain hg fun K' hK' => ?_
 obtain ⟨w', hrun, r1, r2⟩ := set_add h ha hl (a.eval v)
 unfold Oper.wp
 simp [execOp, hop, hm, hx, hrun, Result.andThen]
 exact hK' _ _ (hK w' r1 r2)
theorem wpList_set_range (hg : o.guard = none) (m : Operand) (hop : o.op = Op.range 113 m) {b : Nat} {l : List Addr} (hm : a.eval m = .map (some b)) (h : SetIs w b l)
  (hK : ∀ w', SetGoes w' b w.heap.size l (fun _ => true) l.length → w.grownBy w' none → w'.heap.size = w.heap.size + 1 → wpList Tryz.prog ops Q rest (a.put o.dst (.pointer (some ⟨w.heap.size, 0, none⟩))) w') : wpList Tryz.prog ops Q (o :: rest) a w := by
 refine wpList_plain hg fun K' hK' => ?_
 obtain ⟨w', hrun, r1, r2, r3⟩ := set_begin h
 unfold Oper.wp
 simp [execOp, hop, hm, hrun, Result.andThen]
 exact hK' _ _ (hK w' r1 r2 r3)
theorem wpList_set_next (hg : o.guard = none) (it : Operand) (hop : o.op = Op.next it false) {b r : Nat} {l : List Addr} {left : Addr → Bool} {cnt : Nat} (hit : a.eval it = .pointer (some ⟨r, 0, none⟩)) (h : SetGoes w b r l left cnt)
  (hDone : (∀ c ∈ l, left c = false) → wpList Tryz.prog ops Q rest (a.put o.dst (.tuple #[.bool false])) w)
  (hMore : ∀ (c : Addr) (v : Value) (w' : World) (cnt' : Nat), c ∈ l → left c = true → SetGoes w' b r l (fun x => left x && !decide (x = c)) cnt' → cnt' < cnt → w.grownBy w' (some r) → w'.heap.size = w.heap.size → (Instr.entry (.pointer (some ⟨r, 0, none⟩))).run Tryz.prog w' = .ok (.tuple #[.pointer (some c), v]) w' →
   wpList Tryz.prog ops Q rest (a.put o.dst (.tuple #[.bool true, .pointer (some c), v])) w') : wpList Tryz.prog ops Q (o :: rest) a w := by
 refine wpList_plain hg fun K' hK' => ?_
 unfold Oper.wp
 rcases set_next h o.type with ⟨h0, hrun⟩ | ⟨c, v, w', cnt', h1, h2, hrun, h3, h4, h5, h6, h7⟩
 ·simp [execOp, hop, hit, hrun, Result.andThen]
  exact hK' _ _ (hDone h0)
 ·simp [execOp, hop, hit, hrun, Result.andThen]
  exact hK' _ _ (hMore c v w' cnt' h1 h2 h3 h4 h5 h6 h7)
end
end Go.Proofs.YtfpbpakgajddnaaGreatDoor.Pl
/- PlG -/
namespace Go.Proofs.YtfpbpakgajddnaaGreatDoor.Pl
open Go Go.RowKit Go.Maps Go.Proofs.YtfpbpakgajddnaaGreatDoorW.PrintWords
set_option linter.unusedVariables false
set_option linter.unusedSimpArgs false
/-- What a crash makes of a file. -/
def cutF (bytes : Int) (f : Fil) : Fil := ⟨f.safe ++ f.loose.take (clamp bytes f.loose.length), []⟩
theorem crash_eq (m : Mach) (s b : Int) : crash m s b = { m with safe := after m.safe (m.steps.take (clamp s m.steps.length)), steps := [], power := -1, files := m.files.map (cutF b) } := rfl
section
variable {w w' w1 : World} {bp : Nat} {m : Mach} {x : Pt} {Lv : Nat → Prop}
theorem PP.isFile (pp : PP w bp m x Lv) {k : Nat} (hk : Lv k) : IsFile w (x.K k) := ⟨rfl, rfl, _, pp.file k hk⟩
theorem K_inj (pp : PP w bp m x Lv) {k j : Nat} (hk : Lv k) (hj : Lv j) (h : x.K k = x.K j) : k = j := pp.fne k j hk hj (congrArg Addr.block h)
theorem row_take {w : World} {A : Option Addr} {c n : Nat} {l : L} (h : w.ownsRow 0 5 1 (.slice A l.length c) l.length (Lib.byteCells l)) (hn : n ≤ l.length) : w.ownsRow 0 5 1 (.slice A n c) (l.take n).length (Lib.byteCells (l.take n)) := by
 have hl : (l.take n).length = n := by rw [List.length_take]; omega
 rw [hl]
 refine ⟨by simp [Lib.byteCells]; omega, ?_⟩
 rcases h.2 with ⟨h1, h2⟩ | ⟨g, cap, cur, h1, hb, hg, hc, hm, hs, ht⟩
 ·injection h1 with e1 e2 e3
  have : n = 0 := by omega
  subst this
  exact .inl ⟨by rw [e1, e3], rfl⟩
 ·injection h1 with e1 e2 e3
  refine .inr ⟨g, cap, cur, by rw [e1, e3], hb, hg, by omega, hm, hs, ?_⟩
  have : cur.toList.take (n * 1) = (cur.toList.take (l.length * 1)).take (n * 1) := by rw [List.take_take]; congr 1; omega
  rw [this, ht]
  simp [Lib.byteCells, List.map_take]
theorem cut_done (pp : PP w bp m x Lv) {k : Nat} (hk : Lv k) (b : Int) {A : Option Addr} {c : Nat} (hbv : x.bv k = .slice A (fileAt m.files k).all.length c) :
  PP ((w.setCell ⟨x.fb k, 0, none⟩ (.slice A ((fileAt m.files k).safe.length + clamp b (fileAt m.files k).loose.length) c)).setCell ⟨x.fb k, 1, none⟩ (.int .i64 (((fileAt m.files k).safe.length + clamp b (fileAt m.files k).loose.length : Nat)))) bp { m with files := m.files.set k (cutF b (fileAt m.files k)) } { x with bv := fun j => if j = k then .slice A ((fileAt m.files k).safe.length + clamp b (fileAt m.files k).loose.length) c else x.bv j } Lv ∧
  ∀ i, foot bp { x with bv := fun j => if j = k then .slice A ((fileAt m.files k).safe.length + clamp b (fileAt m.files k).loose.length) c else x.bv j } Lv i → foot bp x Lv i := by
 have hkf := pp.file k hk
 have hcl : clamp b (fileAt m.files k).loose.length ≤ (fileAt m.files k).loose.length := by unfold clamp; omega
 have hall : (fileAt m.files k).all.length = (fileAt m.files k).safe.length + (fileAt m.files k).loose.length := by unfold Fil.all; rw [List.length_append]
 have htk : (cutF b (fileAt m.files k)).all = (fileAt m.files k).all.take ((fileAt m.files k).safe.length + clamp b (fileAt m.files k).loose.length) := by
  show ((fileAt m.files k).safe ++ (fileAt m.files k).loose.take _) ++ [] = ((fileAt m.files k).safe ++ (fileAt m.files k).loose).take _
  rw [List.append_nil]
  generalize (fileAt m.files k).safe = p
  generalize clamp b (fileAt m.files k).loose.length = q
  generalize (fileAt m.files k).loose = r
  rw [List.take_append, List.take_of_length_le (show p.length ≤ p.length + q by omega), show p.length + q - p.length = q by omega]
 have hsl : (cutF b (fileAt m.files k)).safe.length = (fileAt m.files k).safe.length + clamp b (fileAt m.files k).loose.length := by
  show ((fileAt m.files k).safe ++ (fileAt m.files k).loose.take _).length = _
  rw [List.length_append, List.length_take]
  omega
 have hob : (Value.slice A ((fileAt m.files k).safe.length + clamp b (fileAt m.files k).loose.length) c).ownBlock = (x.bv k).ownBlock := by rw [hbv]; cases A <;> rfl
 have hrow0 := pp.bytes k hk
 rw [hbv] at hrow0
 have hrow := row_take hrow0 (n := (fileAt m.files k).safe.length + clamp b (fileAt m.files k).loose.length) (by omega)
 obtain ⟨pp', hf⟩ := pp.file_new (w' := (w.setCell ⟨x.fb k, 0, none⟩ (.slice A ((fileAt m.files k).safe.length + clamp b (fileAt m.files k).loose.length) c)).setCell ⟨x.fb k, 1, none⟩ (.int .i64 (((fileAt m.files k).safe.length + clamp b (fileAt m.files k).loose.length : Nat)))) hk (.slice A ((fileAt m.files k).safe.length + clamp b (fileAt m.files k).loose.length) c) (cutF b (fileAt m.files k))
  (fun i _ h1 _ => (set_other 1 _ h1).trans (set_other 0 _ h1)) (by rw [hsl]; exact set_same (set_same hkf 0 _) 1 _)
  (by
   rw [htk]
   refine own_move hrow (fun i hi => ?_)
   rw [hob] at hi
   obtain ⟨_, e2⟩ := row_block (pp.bytes k hk) hi
   have hne := cells_ne e2 hkf (by decide)
   exact (set_other 1 _ hne).trans (set_other 0 _ hne))
  (fun i hi => .inl (hob ▸ hi))
 refine ⟨pp', ?_⟩
 rintro i (hi | hi | hi | hi | ⟨j, hj, hi⟩)
 ·exact .inl hi
 ·exact .inr (.inl hi)
 ·exact .inr (.inr (.inl hi))
 ·exact .inr (.inr (.inr (.inl hi)))
 ·rcases hi with hi | hi
  ·exact .inr (.inr (.inr (.inr ⟨j, hj, .inl hi⟩)))
  ·have hi' : (if j = k then Value.slice A ((fileAt m.files k).safe.length + clamp b (fileAt m.files k).loose.length) c else x.bv j).ownBlock = some i := hi
   by_cases e : j = k
   ·rw [if_pos e, hob] at hi'
    exact .inr (.inr (.inr (.inr ⟨k, hk, .inr hi'⟩)))
   ·rw [if_neg e] at hi'
    exact .inr (.inr (.inr (.inr ⟨j, hj, .inr hi'⟩)))
/-- Behind all of it: the safe directory with some of the steps, and a copy of it. -/
theorem crash_done (pp : PP w bp m x Lv) (fs : List Fil) (bytes : Int) (t : List Stp) (ht : ∀ s ∈ t, s ∈ m.steps) {Lw : Nat → Prop} (hLw : ∀ k, Lw k → Lv k) (hLive : ∀ k, Live m k → Lw k) (hfs : ∀ k, Lw k → fileAt fs k = fileAt m.files k) (hlen : fs.length = m.files.length)
  {w2 w3 : World} {nb : Nat} (hT2 : Tch (fun i => i = x.bs) w w2) (hs2 : OwnDir w2 x.bs x.K (after m.safe t)) (hb3 : Below w2.heap.size w2 w3) (hn3 : OwnDir w3 nb x.K (after m.safe t)) (hnb : w2.heap.size ≤ nb) :
  Res w (((w3.setCell ⟨bp, 1, none⟩ (.map (some nb))).setCell ⟨bp, 2, none⟩ (.slice none 0 0)).setCell ⟨bp, 3, none⟩ (.int .i64 (-1))) bp { m with files := fs, safe := after m.safe t, steps := [], power := -1 } x Lv := by
 obtain ⟨n1, n2, n3, n4⟩ := pp.bp_ne
 obtain ⟨_, _, ebs⟩ := dir_block pp.safe
 have hT3 : Tch (fun i => i = x.bs) w w3 := hT2.andBelow hb3
 have top3 : w3.heap[bp]? = some (topC (.map (some x.bs)) (.map (some x.bn)) x.st m.power m.room) := hT3.keep pp.top (fun e => n1 e.symm)
 have hnbp : nb ≠ bp := by
  have h1 := blk_lt pp.top
  have h2 := hT2.size
  omega
 have hbsl : x.bs < w.heap.size := blk_lt ebs
 have hnbs : x.bs ≠ nb := by
  have h2 := hT2.size
  omega
 have three : ∀ {i : Nat}, i ≠ bp → (((w3.setCell ⟨bp, 1, none⟩ (.map (some nb))).setCell ⟨bp, 2, none⟩ (.slice none 0 0)).setCell ⟨bp, 3, none⟩ (.int .i64 (-1))).heap[i]? = w3.heap[i]? := fun h => (set_other 3 _ h).trans ((set_other 2 _ h).trans (set_other 1 _ h))
 have old : ∀ {i : Nat}, i < w.heap.size → i ≠ x.bs → w3.heap[i]? = w.heap[i]? := fun hl h => hT3.block _ hl h
 refine ⟨{ x with bn := nb, st := .slice none 0 0 }, Lw, ⟨set_same (set_same (set_same top3 1 _) 2 _) 3 _, ?_, map_move hn3 (three hnbp), World.ownsRow_nil _ _ _ _, fun k hk => ?_, fun k hk => ?_, hnbs, fun k j hk hj => pp.fne k j (hLw k hk) (hLw j hj), fun k j b hk hj => pp.bne k j b (hLw k hk) (hLw j hj), fun k hk => ?_, fun k hk => ?_⟩, ?_, fun i hi => ?_⟩
 ·refine map_move (map_move hs2 ?_) (three n1)
  have := hb3.block x.bs (by have := hT2.size; omega)
  exact this
 ·show _ = some (fileC (x.bv k) (fileAt fs k).safe.length)
  rw [hfs k hk]
  exact (three (n4 k (hLw k hk)).1).trans ((old (blk_lt (pp.file k (hLw k hk))) (cells_ne_map (pp.file k (hLw k hk)) ebs)).trans (pp.file k (hLw k hk)))
 ·show World.ownsRow _ _ _ _ _ (fileAt fs k).all.length (Lib.byteCells (fileAt fs k).all)
  rw [hfs k hk]
  refine own_move (pp.bytes k (hLw k hk)) (fun i hi => ?_)
  obtain ⟨_, e⟩ := row_block (pp.bytes k (hLw k hk)) hi
  exact (three (fun e2 => (n4 k (hLw k hk)).2 (e2 ▸ hi))).trans (old (blk_lt e) (cells_ne_map e ebs))
 ·refine hLive k ?_
  rcases hk with ⟨n, hk⟩ | ⟨n, hk⟩
  ·rcases mem_after t m.safe (n, k) hk with h1 | h1
   ·exact .inl ⟨n, h1⟩
   ·exact .inr ⟨n, ht _ h1⟩
  ·simp at hk
 ·show k < fs.length
  rw [hlen]
  exact pp.kl k (hLw k hk)
 ·have h0 : Tch (foot bp x Lv) w w3 := hT3.mono (fun i hi _ => hi ▸ .inr (.inl rfl))
  exact ((h0.andSet _ (.inl (.inl rfl))).andSet _ (.inl (.inl rfl))).andSet _ (.inl (.inl rfl))
 ·rcases hi with hi | hi | hi | hi | ⟨k, hk, hi⟩
  ·exact .inl (.inl hi)
  ·exact .inl (.inr (.inl hi))
  ·refine .inr ?_
   have h2 := hT2.size
   have : i = nb := hi
   omega
  ·cases hi
  ·exact .inl (.inr (.inr (.inr (.inr ⟨k, hLw k hk, hi⟩))))
end
/-- The set is of files that the plate can reach. -/
def Reach (m : Mach) (x : Pt) (l : List Addr) : Prop := ∀ a ∈ l, ∃ k, Live m k ∧ a = x.K k
theorem Reach.add {m : Mach} {x : Pt} {l : List Addr} (h : Reach m x l) {k : Nat} (hk : Live m k) : Reach m x (if x.K k ∈ l then l else l ++ [x.K k]) := by
 split
 ·exact h
 ·intro a ha
  rcases List.mem_append.1 ha with ha | ha
  ·exact h a ha
  ·exact ⟨k, hk, List.mem_singleton.1 ha⟩
theorem mem_add {l : List Addr} {a b : Addr} : b ∈ (if a ∈ l then l else l ++ [a]) ↔ b ∈ l ∨ b = a := by
 split
 ·rename_i h
  exact ⟨.inl, fun x => x.elim id (fun e => e ▸ h)⟩
 ·simp
/-- Once more a round of the range over the safe directory is done. -/
theorem safe_in {m : Mach} {x : Pt} {l : List Addr} {left : Lit → Bool} {s : L} {k : Nat} (hs : Sorted m.safe) (hm : (s, k) ∈ m.safe) (h : ∀ p ∈ m.safe, left (.string p.1) = false → x.K p.2 ∈ l) :
  ∀ p ∈ m.safe, (left (.string p.1) && !(Lit.string p.1).sameKey (.string s)) = false → x.K p.2 ∈ (if x.K k ∈ l then l else l ++ [x.K k]) := by
 intro p hp hl
 rw [mem_add]
 cases h1 : left (.string p.1) with
 | false => exact .inl (h p hp h1)
 | true =>
  rw [h1, same_str] at hl
  have : p.1 = s := by simpa using hl
  right
  obtain ⟨n, j⟩ := p
  simp only at this
  subst this
  rw [sorted_inj hs hp hm]
theorem SetIs.alloc {w : World} {b : Nat} {l : List Addr} (h : SetIs w b l) (o : Obj) : SetIs (w.alloc o) b l := by
 obtain ⟨es, clock, hb, rest⟩ := h
 exact ⟨es, clock, (Below.heap_alloc _ _ _ (blk_lt hb)).trans hb, rest⟩
theorem stepsC_at (K : Nat → Addr) : ∀ (l : List Stp) (i : Nat) (s : Stp), l[i]? = some s → (stepsC K l)[i * 2]? = some (.string (mkB s.1)) ∧ (stepsC K l)[i * 2 + 1]? = some (ptrO K s.2)
 | [], i, s, h => by simp at h
 | t :: l, 0, s, h => by
  simp at h
  subst h
  exact ⟨rfl, rfl⟩
 | t :: l, i + 1, s, h => by
  have h2 := stepsC_at K l i s (by simpa using h)
  have e : stepsC K (t :: l) = Value.string (mkB t.1) :: ptrO K t.2 :: stepsC K l := rfl
  rw [e, show (i + 1) * 2 = i * 2 + 1 + 1 by omega, List.getElem?_cons_succ, List.getElem?_cons_succ, List.getElem?_cons_succ, List.getElem?_cons_succ]
  exact h2
/-- Some of the set's files are cut. -/
def Cut (w wr : World) (bp : Nat) (m : Mach) (x : Pt) (Lv : Nat → Prop) (bytes : Int) (l : List Addr) (left : Addr → Bool) (bv' : Nat → Value) (fs : List Fil) : Prop :=
  PP wr bp { m with files := fs } { x with bv := bv' } Lv ∧ fs.length = m.files.length ∧ (∀ k, Lv k → fileAt fs k = if x.K k ∈ l ∧ left (x.K k) = false then cutF bytes (fileAt m.files k) else fileAt m.files k) ∧ Tch (foot bp x Lv) w wr ∧ ∀ i, foot bp { x with bv := bv' } Lv i → foot bp x Lv i
section
variable {w wr w5 : World} {bp : Nat} {m : Mach} {x : Pt} {Lv : Nat → Prop} {bytes : Int} {l : List Addr} {left : Addr → Bool} {bv' : Nat → Value} {fs : List Fil}
theorem Cut.start (pp : PP wr bp m x Lv) (ht : Tch (fun _ => False) w wr) : Cut w wr bp m x Lv bytes l (fun _ => true) x.bv m.files :=
 ⟨pp, rfl, fun k _ => by simp, ht.mono (fun _ h _ => h.elim), fun _ h => h⟩
theorem Cut.move (h : Cut w wr bp m x Lv bytes l left bv' fs) (hs : ∀ i, foot bp x Lv i → w5.heap[i]? = wr.heap[i]?) (ht : Tch (foot bp x Lv) w w5) : Cut w w5 bp m x Lv bytes l left bv' fs :=
 ⟨h.1.move (fun i hi => hs i (h.2.2.2.2 i hi)), h.2.1, h.2.2.1, ht, h.2.2.2.2⟩
theorem Cut.step (h : Cut w wr bp m x Lv bytes l left bv' fs) {k : Nat} (hk : Lv k) (hl : x.K k ∈ l) (hleft : left (x.K k) = true) {A : Option Addr} {c : Nat} (hbv : bv' k = .slice A (fileAt m.files k).all.length c) :
  ∃ bv2 fs2, Cut w ((wr.setCell ⟨x.fb k, 0, none⟩ (.slice A ((fileAt m.files k).safe.length + clamp bytes (fileAt m.files k).loose.length) c)).setCell ⟨x.fb k, 1, none⟩ (.int .i64 (((fileAt m.files k).safe.length + clamp bytes (fileAt m.files k).loose.length : Nat)))) bp m x Lv bytes l (fun z => left z && !decide (z = x.K k)) bv2 fs2 := by
 obtain ⟨pp, hlen, hfs, ht, hf⟩ := h
 have hfk : fileAt fs k = fileAt m.files k := by rw [hfs k hk, if_neg (by simp [hleft])]
 have h1 := cut_done pp hk bytes (A := A) (c := c) (by show bv' k = .slice A (fileAt fs k).all.length c; rw [hfk]; exact hbv)
 simp only [hfk] at h1
 obtain ⟨pp2, hf2⟩ := h1
 have hkl : k < fs.length := pp.kl k hk
 refine ⟨_, _, pp2, by rw [List.length_set]; exact hlen, fun j hj => ?_, (ht.andSet _ (.inl (.inr (.inr (.inr (.inr ⟨k, hk, .inl rfl⟩)))))).andSet _ (.inl (.inr (.inr (.inr (.inr ⟨k, hk, .inl rfl⟩))))), fun i hi => hf i (hf2 i hi)⟩
 by_cases e : j = k
 ·subst e
  rw [if_pos ⟨hl, by simp⟩]
  simp [fileAt, hkl]
 ·have hne : x.K j ≠ x.K k := fun e2 => e (K_inj pp hj hk e2)
  have hset : fileAt (fs.set k (cutF bytes (fileAt m.files k))) j = fileAt fs j := by
   simp [fileAt, List.getElem?_set, Ne.symm e]
  rw [hset, hfs j hj]
  simp [hne]
end
theorem clone_any {w : World} {b : Nat} {K : Nat → Addr} {d : Dir} (h : OwnDir w b K d) :
  Calls Tryz.prog 69 #[.map (some b)] w fun e w' => e = .returned (.map (some w.heap.size)) ∧ OwnDir w' w.heap.size K d ∧ Below w.heap.size w w' := by
 refine (AnyW.maps_Clone_owns Tryz.clone69 9 rawE b d.length (dirD K d) w h).mono ?_
 rintro e w' ⟨he, h1, _, hb⟩
 exact ⟨he, h1, hb⟩
theorem Res.over {w w3 w4 : World} {bp : Nat} {x x1 : Pt} {Lv : Nat → Prop} {m' : Mach} (ht : Tch (foot bp x Lv) w w3) (hf : ∀ i, foot bp x1 Lv i → foot bp x Lv i) (h : Res w3 w4 bp m' x1 Lv) : Res w w4 bp m' x Lv := by
 obtain ⟨x', Lv', pp, t, f⟩ := h
 exact ⟨x', Lv', pp, ht.trans t (fun i hi => .inl (hf i hi)), fun i hi => (f i hi).elim (fun h => .inl (hf i h)) (fun h => .inr (Nat.le_trans ht.size h))⟩
set_option maxRecDepth 100000 in
set_option maxHeartbeats 8000000 in
theorem crashW {C : Nat} {bp : Nat} {m : Mach} {x : Pt} {Lv : Nat → Prop} (steps bytes : Int) {w : World} (pp0 : PP w bp m x Lv) (hi : Inv C m) (hC : C ≤ 100000000) (hnm : ∀ s ∈ m.steps, s.1.length ≤ 100000000000000) :
  Calls Tryz.prog 24 #[.pointer (some ⟨bp, 0, none⟩), .int .i64 steps, .int .i64 bytes] w fun e w' => e = .returned (.tuple #[]) ∧ Res w w' bp (crash m steps bytes) x Lv := by
 have hmm := @run_makeMap Tryz.prog
 have T1 : Tch (fun _ => False) w (w.alloc (.map #[] 0)) := Tch.alloc _ w _
 have PP0 := Lib.hid pp0
 have hset0 : SetIs (w.alloc (.map #[] 0)) w.heap.size [] := ⟨#[], 0, alloc_new w _, rfl, by simp, by simp, by simp⟩
 have SET0 := Lib.hid hset0
 have PP1 := Lib.hid (pp0.tch T1)
 have HLT := Lib.hid (fun i (hi : foot bp x Lv i) => pp0.lt hi)
 have c0 : (w.alloc (.map #[] 0)).cell? ⟨bp, 0, none⟩ = some (.map (some x.bs)) := cell_at PP1.out.top 0
 have hsz1 : (w.alloc (.map #[] 0)).heap.size = w.heap.size + 1 := by simp
 have HI := Lib.hid hi
 have hlen := hi.count
 clear pp0 hset0 hi
 go_enter Tryz.func24, Tryz.ntmps24
 go_wp2_with (first
  | (at_range; refine wpList_range_own _ rfl _ 77 rfl 9 76 keyS Tryz.underlying77 rawE x.bs m.safe.length (dirD x.K m.safe) rfl PP1.out.safe ?_; intro w0 hrg0 hg0 hs0; rw [hsz1] at hrg0 ⊢)
  | go_in)
 go_frame
 go_loopw [8] (fun _ wr => ∃ (left : Lit → Bool) (cnt : Nat) (l : List Addr), wr.ranges Tryz.prog 9 rawE x.bs (w.heap.size + 1) m.safe.length (dirD x.K m.safe) left cnt ∧ SetIs wr w.heap.size l ∧ Reach m x l ∧ (∀ p ∈ m.safe, left (.string p.1) = false → x.K p.2 ∈ l) ∧ Tch (fun _ => False) w wr)
  (fun _ wr => wr.rangeLeft x.bs (w.heap.size + 1))
 case atStart =>
  have hl0 : w.heap.size < (w.alloc (.map #[] 0)).heap.size := by omega
  refine ⟨_, _, [], hrg0, ?_, fun a ha => by simp at ha, fun p hp hl => ?_, T1.andGrown hg0 (fun k hk => by cases hk)⟩
  ·obtain ⟨es, clock, hb, rest⟩ := SET0.out
   exact ⟨es, clock, (hg0.block _ hl0 (by simp)).trans hb, rest⟩
  ·exfalso
   have : Maps.has (dirD x.K m.safe) (.string p.1) = true := by
    unfold dirD
    rw [has_eq]
    exact List.any_eq_true.2 ⟨ent x.K p, List.mem_map.2 ⟨p, hp, rfl⟩, by simp [ent, Lit.sameKey]⟩
   rw [this] at hl
   cases hl
 case round =>
  obtain ⟨left, cnt, l, hrg, hset, hreach, hall, ht⟩ := hrel
  go_wp2_with (first
   | (at_next; refine wpList_next_ranges _ rfl _ rfl 9 keyS rawE Value.string Value.pointer (fun key kl h => by obtain ⟨y, e, _⟩ := string_key_inv h; exact ⟨y, e⟩) (fun v y h => by obtain ⟨q, e, _⟩ := rawE_inv h; exact ⟨q, e⟩) x.bs (w.heap.size + 1) m.safe.length _ _ _ rfl hrg ?_ ?_)
   | go_in)
  ·intro _ hl0
   have hsafe : ∀ p ∈ m.safe, x.K p.2 ∈ l := fun p hp => hall p hp (hl0 _)
   have ppr := PP0.out.tch ht
   obtain ⟨A, c, hst⟩ := row_slice ppr.steps
   have d2 : wr.cell? ⟨bp, 2, none⟩ = some (.slice A m.steps.length c) := by rw [← hst]; exact cell_at ppr.top 2
   have HST := Lib.hid hst
   have SETA := Lib.hid hset
   have REA := Lib.hid hreach
   have SAF := Lib.hid hsafe
   have TA := Lib.hid ht
   clear hall ppr hst hset hreach hsafe ht hrg hl0
   go_wp2
   go_loopw [32, 10] (fun v32 _ wq => ∃ (i : Nat) (l : List Addr), v32 = Value.int .i64 (i : Int) ∧ i ≤ m.steps.length ∧ SetIs wq w.heap.size l ∧ Reach m x l ∧ (∀ p ∈ m.safe, x.K p.2 ∈ l) ∧ (∀ j n k, m.steps[j]? = some (n, some k) → j < i → x.K k ∈ l) ∧ Tch (fun _ => False) w wq)
    (fun v32 _ _ => m.steps.length - (intOf v32).toNat)
   case atStart => exact ⟨0, l, rfl, Nat.zero_le _, SETA.out, REA.out, SAF.out, fun j n k _ h => absurd h (Nat.not_lt_zero _), TA.out⟩
   case round =>
    obtain ⟨i, l, rfl, hil, hset, hreach, hsafe, hsteps, ht⟩ := hrel
    by_cases hlt : i < m.steps.length
    ·have hdec : ((i : Int) < (m.steps.length : Int)) := by omega
     have ppr := PP0.out.tch ht
     obtain ⟨g, hA⟩ : ∃ g, A = some ⟨g, 0, none⟩ := by
      rcases ppr.steps.2 with ⟨h1, h2⟩ | ⟨g, cap, cur, h1, _⟩
      ·omega
      ·rw [HST.out] at h1
       injection h1 with e1 e2 e3
       exact ⟨g, e1⟩
     subst hA
     obtain ⟨s, hs⟩ : ∃ s, m.steps[i]? = some s := ⟨_, List.getElem?_eq_getElem hlt⟩
     obtain ⟨sc1, sc2⟩ := stepsC_at x.K m.steps i s hs
     have hrow := ppr.steps
     rw [HST.out] at hrow
     have cA := (hrow.cellAt (i * 2) (by omega)).trans sc1
     have cB := (hrow.cellAt (i * 2 + 1) (by omega)).trans sc2
     have HS := Lib.hid hs
     have HT := Lib.hid ht
     have SETB := Lib.hid hset
     have REB := Lib.hid hreach
     have SAB := Lib.hid hsafe
     have STB := Lib.hid hsteps
     have PPR := Lib.hid ppr
     clear hrow sc1 sc2 hs ht hset hreach hsafe hsteps ppr
     cases h2 : s.2 with
     | none =>
      rw [h2] at cB
      have cB' : wr.cell? ⟨g, i * 2 + 1, none⟩ = some (.pointer none) := cB
      clear cB
      go_wp2
      go_roundw
      case rel =>
       refine ⟨i + 1, l, by push_cast; rfl, by omega, SETB.out.alloc _, REB.out, SAB.out, fun j n k hj hji => ?_, HT.out.andAlloc _⟩
       by_cases e : j = i
       ·subst e
        rw [HS.out] at hj
        have := Option.some.inj hj
        rw [this] at h2
        cases h2
       ·exact STB.out j n k hj (by omega)
      case measure =>
       show m.steps.length - ((i : Int) + 1).toNat < m.steps.length - (i : Int).toNat
       omega
     | some k =>
      rw [h2] at cB
      have hlive : Live m k := .inr ⟨s.1, by rw [← h2]; exact List.mem_of_getElem? HS.out⟩
      have cB' : wr.cell? ⟨g, i * 2 + 1, none⟩ = some (.pointer (some (x.K k))) := cB
      clear cB
      go_wp2_with (first
       | (at_mapUpdate; refine wpList_set_add rfl _ _ _ rfl rfl (SETB.out.alloc _) rfl ((PPR.out.alloc _).isFile (PPR.out.live k hlive)) (fun c hc => by obtain ⟨j, hj, rfl⟩ := REB.out c hc; exact (PPR.out.alloc _).isFile (PPR.out.live j hj)) ?_; intro w2 hset2 hg2)
       | go_in)
      go_roundw
      case rel =>
       refine ⟨i + 1, _, by push_cast; rfl, by omega, hset2, REB.out.add hlive, fun p hp => mem_add.2 (.inl (SAB.out p hp)), fun j n k' hj hji => mem_add.2 ?_, (HT.out.andAlloc _).andGrown hg2 (fun j hj => .inr (by have := Option.some.inj hj; omega))⟩
       by_cases e : j = i
       ·subst e
        rw [HS.out] at hj
        have := Option.some.inj hj
        rw [this] at h2
        have := Option.some.inj h2
        exact .inr (by rw [this])
       ·exact .inl (STB.out j n k' hj (by omega))
      case measure =>
       show m.steps.length - ((i : Int) + 1).toNat < m.steps.length - (i : Int).toNat
       omega
    ·have HIN := Lib.hid (show ∀ k, Live m k → x.K k ∈ l from fun k hk => by
      rcases hk with ⟨n, hk⟩ | ⟨n, hk⟩
      ·exact hsafe _ hk
      ·obtain ⟨j, hj⟩ := List.getElem?_of_mem hk
       exact hsteps j n k hj (by have := (List.getElem?_eq_some_iff.1 hj).1; omega))
     clear hsteps
     go_wp2_with (first
      | (at_range; refine wpList_set_range rfl _ rfl rfl hset ?_; intro w3 hgo hg3 hs3)
      | go_in)
     go_frame
     have hbl : w.heap.size < wr.heap.size := by
      obtain ⟨es, clock, hb, _⟩ := hset
      exact blk_lt hb
     generalize hR : wr.heap.size = R at *
     have CUT3 := Lib.hid (Cut.start (bytes := bytes) (l := l) (PP0.out.tch (ht.andGrown hg3 (fun k hk => by cases hk))) (ht.andGrown hg3 (fun k hk => by cases hk)))
     have REB := Lib.hid hreach
     clear hset ht hg3 hreach
     go_loopw [11] (fun _ wr => ∃ (left : Addr → Bool) (cnt : Nat) (bv' : Nat → Value) (fs : List Fil), SetGoes wr w.heap.size R l left cnt ∧ Cut w wr bp m x Lv bytes l left bv' fs)
      (fun _ wr => wr.rangeLeft w.heap.size R)
     case atStart => exact ⟨_, _, _, _, hgo, CUT3.out⟩
     case round =>
      obtain ⟨left, cnt, bv', fs, hgo, hcut⟩ := hrel
      go_wp2_with (first
       | (at_next; refine wpList_set_next rfl _ rfl rfl hgo ?_ ?_)
       | go_in)
      ·intro hall
       have hfin : ∀ k, Live m k → fileAt (m.files.map (cutF bytes)) k = fileAt fs k := fun k hk => by
        have h1 := hcut.2.2.1 k (PP0.out.live k hk)
        rw [if_pos ⟨HIN.out k hk, hall _ (HIN.out k hk)⟩] at h1
        rw [h1]
        have := PP0.out.kl k (PP0.out.live k hk)
        simp [fileAt, this]
       have ppc := hcut.1
       have hstc : ({ x with bv := bv' } : Pt).st = x.st := rfl
       have d2 : wr.cell? ⟨bp, 2, none⟩ = some (.slice A m.steps.length c) := by rw [← HST.out]; exact cell_at ppc.top 2
       have hcap : m.steps.length ≤ c := by
        have hr := ppc.steps
        have hr' : wr.ownsRow 0 85 2 x.st m.steps.length (stepsC x.K m.steps) := hr
        rw [HST.out] at hr'
        rcases hr'.2 with ⟨h1, _⟩ | ⟨g2, cap, cur, h1, hb, hg, hc, hm, hs, htk⟩
        ·injection h1 with e1 e2 e3
         omega
        ·injection h1 with e1 e2 e3
         omega
       have hlenS := HI.out.count
       have CUT := Lib.hid hcut
       have FIN := Lib.hid hfin
       have PPC := Lib.hid ppc
       clear hcut hfin ppc hgo hall
       go_wp2
       go_region
       have hn : (max (0 : Int) (min steps (m.steps.length : Int))).toNat = clamp steps m.steps.length := rfl
       have hN1 : clamp steps m.steps.length ≤ m.steps.length := by unfold clamp; omega
       have hm0 : max (0 : Int) (min steps (m.steps.length : Int)) = ((clamp steps m.steps.length : Nat) : Int) := by unfold clamp; omega
       rw [hn, hm0]
       clear hn hm0
       obtain ⟨N, hN⟩ : ∃ N, N = clamp steps m.steps.length := ⟨_, rfl⟩
       rw [← hN] at hN1 ⊢
       have HN := Lib.hid hN
       clear hN
       generalize wr = w6 at *
       have hown0 : OwnDir w6.drew x.bs x.K (after m.safe (m.steps.take 0)) := PPC.out.safe
       have OWN0 := Lib.hid hown0
       clear hown0
       go_wp2
       go_loopw [98, 13] (fun v98 _ wq => ∃ i : Nat, v98 = Value.int .i64 (i : Int) ∧ i ≤ N ∧ OwnDir wq x.bs x.K (after m.safe (m.steps.take i)) ∧ Tch (fun j => j = x.bs) w6 wq)
        (fun v98 _ _ => N - (intOf v98).toNat)
       case atStart => exact ⟨0, rfl, Nat.zero_le _, OWN0.out, Tch.drew _ w6⟩
       case round =>
        obtain ⟨i, rfl, hiN, hown, ht⟩ := hrel
        have ppq := PPC.out.top
        have htop : wr.heap[bp]? = some (topC (.map (some x.bs)) (.map (some x.bn)) x.st m.power m.room) := ht.keep ppq (fun e => PPC.out.bp_ne.1 e.symm)
        by_cases hlt : i < N
        ·have hdec : ((i : Int) < (N : Int)) := by omega
         obtain ⟨s, hs⟩ : ∃ s, m.steps[i]? = some s := ⟨_, List.getElem?_eq_getElem (by omega)⟩
         obtain ⟨sc1, sc2⟩ := stepsC_at x.K m.steps i s hs
         have hrow0 : w6.ownsRow 0 85 2 x.st m.steps.length (stepsC x.K m.steps) := PPC.out.steps
         rw [HST.out] at hrow0
         obtain ⟨g, hA⟩ : ∃ g, A = some ⟨g, 0, none⟩ := by
          rcases hrow0.2 with ⟨h1, h2⟩ | ⟨g, cap, cur, h1, _⟩
          ·injection h1 with e1 e2 e3
           omega
          ·injection h1 with e1 e2 e3
           exact ⟨g, e1⟩
         subst hA
         have hrow : wr.ownsRow 0 85 2 (.slice (some ⟨g, 0, none⟩) m.steps.length c) m.steps.length (stepsC x.K m.steps) := own_move hrow0 (fun j hj => by
          obtain ⟨cs, hb⟩ := row_block hrow0 hj
          obtain ⟨es, ck, hbs⟩ := dir_block PPC.out.safe
          exact ht.block j (blk_lt hb) (cells_ne_map hb hbs))
         have hsl : s.1.length ≤ 100000000000000 := hnm s (List.mem_of_getElem? hs)
         have hal := after_len (m.steps.take i) m.safe
         have htl : (m.steps.take i).length ≤ i := List.length_take_le _ _
         obtain ⟨q, hq⟩ : ∃ q, ptrO x.K s.2 = .pointer q := by cases s.2 <;> exact ⟨_, rfl⟩
         have hdo := fun W (h : OwnDir W x.bs x.K (after m.safe (m.steps.take i))) => do_any x.bs x.K (after m.safe (m.steps.take i)) s W h hsl (by omega)
         rw [hq] at hdo sc2
         have HDO := Lib.hid hdo
         clear hdo hq
         have cA := (hrow.cellAt (i * 2) (by omega)).trans sc1
         have cB := (hrow.cellAt (i * 2 + 1) (by omega)).trans sc2
         have hput : put (after m.safe (m.steps.take i)) s = after m.safe (m.steps.take (i + 1)) := by
          rw [List.take_add_one, hs, after_append]
          rfl
         have HS := Lib.hid hs
         have HT := Lib.hid ht
         have OWN := Lib.hid hown
         have HPUT := Lib.hid hput
         have e0 : wr.cell? ⟨bp, 0, none⟩ = some (.map (some x.bs)) := cell_at htop 0
         have htl' := blk_lt htop
         have b0 : ¬ bp = wr.heap.size := by omega
         have b1 : ¬ wr.heap.size = bp := by omega
         clear hrow hrow0 sc1 sc2 hs ht hown hput htop ppq hal htl
         go_wp2
         go_region_with (go_at_call 68; refine (HDO.out _ ((OWN.out.alloc _).drew)).mono ?_; rintro e w7 ⟨rfl, hd7, ht7⟩)
         all_goals
          go_wp2
          go_roundw
          case rel => exact ⟨i + 1, by push_cast; rfl, by omega, HPUT.out ▸ hd7, (HT.out.trans ((Tch.alloc (fun j => j = x.bs) wr _).drewA.trans ht7 (fun k hk => .inl hk)) (fun k hk => .inl hk))⟩
          case measure =>
           show N - ((i : Int) + 1).toNat < N - (i : Int).toNat
           omega
        ·have hdec : ¬ ((i : Int) < (N : Int)) := by omega
         have hiN' := Lib.hid (show i = N by omega)
         have HC := Lib.hid (clone_any hown)
         have HT := Lib.hid ht
         have OWN := Lib.hid hown
         have TOP := Lib.hid htop
         have e0 : wr.cell? ⟨bp, 0, none⟩ = some (.map (some x.bs)) := cell_at htop 0
         clear ht hown ppq
         go_wp2_with (first
          | (go_at_call 69; refine HC.out.mono ?_; rintro e w4 ⟨rfl, ho4, hb4⟩; have HO := Lib.hid ho4; have HB := Lib.hid hb4; have top4 : w4.heap[bp]? = some (topC (.map (some x.bs)) (.map (some x.bn)) x.st m.power m.room) := (hb4.block _ (blk_lt htop)).trans htop; have k1 : w4.cell? ⟨bp, 1, none⟩ = some (.map (some x.bn)) := cell_at top4 1; have k2 : w4.cell? ⟨bp, 2, none⟩ = some x.st := cell_at top4 2; have k3 : w4.cell? ⟨bp, 3, none⟩ = some (.int .i64 m.power) := cell_at top4 3; have y1 : w4.frozen? ⟨bp, 1, none⟩ = false := melt_at top4 1; have y2 : w4.frozen? ⟨bp, 2, none⟩ = false := melt_at top4 2; have y3 : w4.frozen? ⟨bp, 3, none⟩ = false := melt_at top4 3; clear ho4 hb4)
          | go_in)
         go_end0
         obtain ⟨pp6, hlen6, _, ht6, hf6⟩ := CUT.out
         have e := hiN'.out
         have ho1 := OWN.out
         have ho2 := HO.out
         rw [e] at ho1 ho2
         have hres := crash_done pp6 (m.files.map (cutF bytes)) bytes (m.steps.take N) (fun s hs => List.mem_of_mem_take hs) (Lw := Live m) (fun k hk => PP0.out.live k hk) (fun k hk => hk) (fun k hk => FIN.out k hk) (by rw [List.length_map]; exact hlen6.symm) HT.out ho1 HB.out ho2 (Nat.le_refl _)
         refine ⟨rfl, Res.over ht6 hf6 ?_⟩
         rw [crash_eq, ← HN.out]
         exact hres
      ·intro c v w5 cnt5 hmem hleft hgo5 hlt5 hg5 hs5 hen
       obtain ⟨k, hlive, rfl⟩ := REB.out c hmem
       have hk := PP0.out.live k hlive
       have cut5 : Cut w w5 bp m x Lv bytes l left bv' fs := hcut.move (fun i hi => hg5.block i (by have := HLT.out i hi; have := hcut.2.2.2.1.size; omega) (fun e => by have := Option.some.inj e; have := HLT.out i hi; omega)) (hcut.2.2.2.1.andGrown hg5 (fun j hj => .inr (by have := Option.some.inj hj; omega)))
       obtain ⟨pp5, hlen5, hfs5, ht5, hf5⟩ := cut5
       obtain ⟨A, c, hbv, f0, f1, z0, z1⟩ := pp5.cells hk
       have hfk : fileAt fs k = fileAt m.files k := by rw [hfs5 k hk, if_neg (by simp [hleft])]
       simp only [hfk] at hbv f0 f1
       have CUT5 := Lib.hid (show Cut w w5 bp m x Lv bytes l left bv' fs from ⟨pp5, hlen5, hfs5, ht5, hf5⟩)
       have GO5 := Lib.hid hgo5
       have GO0 := Lib.hid hgo
       have HCU := Lib.hid hcut
       have HMEM := Lib.hid hmem
       have HLEFT := Lib.hid hleft
       have HBV := Lib.hid hbv
       have hrowc := pp5.bytes k hk
       have hcap : (fileAt m.files k).all.length ≤ c ∧ ((A = none → c = 0) ∧ ∀ a, A = some a → a = ⟨a.block, 0, none⟩) := by
        have hb2 : ({ x with bv := bv' } : Pt).bv k = .slice A (fileAt m.files k).all.length c := hbv
        rw [hb2] at hrowc
        rcases hrowc.2 with ⟨h1, _⟩ | ⟨g2, cap, cur, h1, hb, hg, hc, hm, hs, htk⟩
        ·injection h1 with e1 e2 e3
         exact ⟨by show (fileAt m.files k).all.length ≤ c; omega, fun _ => e3, fun a ha => by rw [e1] at ha; cases ha⟩
        ·injection h1 with e1 e2 e3
         refine ⟨?_, fun ha => (by rw [e1] at ha; cases ha), fun a ha => by rw [e1] at ha; have := Option.some.inj ha; rw [← this]⟩
         have : (fileAt fs k).all.length ≤ cap := hc
         rw [hfk] at this
         omega
       have hall : (fileAt m.files k).all.length = (fileAt m.files k).safe.length + (fileAt m.files k).loose.length := by unfold Fil.all; rw [List.length_append]
       have hbig : ((fileAt m.files k).all.length : Int) ≤ 4194304 := Int.le_trans (HI.out.size _ (fileAt_mem (PP0.out.kl k hk))) HI.out.room1
       have hcl : ((fileAt m.files k).safe.length : Int) + max 0 (min bytes (((fileAt m.files k).all.length : Int) - ((fileAt m.files k).safe.length : Int))) = (((fileAt m.files k).safe.length + clamp bytes (fileAt m.files k).loose.length : Nat) : Int) := by
        unfold clamp
        omega
       clear hcut hgo hgo5 hmem hleft hbv hrowc pp5 hlen5 hfs5 ht5 hf5 hfk
       have c0 : w5.cell? ⟨x.fb k, 0, none⟩ = some (.slice A (fileAt m.files k).all.length c) := f0
       have c1 : w5.cell? ⟨x.fb k, 1, none⟩ = some (.int .i64 ((fileAt m.files k).safe.length : Nat)) := f1
       have z0' : w5.frozen? ⟨x.fb k, 0, none⟩ = false := z0
       have z1' : w5.frozen? ⟨x.fb k, 1, none⟩ = false := z1
       clear f0 f1 z0 z1
       have hK : x.K k = ⟨x.fb k, 0, none⟩ := rfl
       go_wp2
       rw [hK]
       go_region
       have hcl2 : ((fileAt m.files k).safe.length + max 0 (min bytes (((fileAt m.files k).safe.length : Int) + ((fileAt m.files k).loose.length : Int) - ((fileAt m.files k).safe.length : Int))) : Int).toNat = (fileAt m.files k).safe.length + clamp bytes (fileAt m.files k).loose.length := by
        unfold clamp
        omega
       rw [hcl2]
       clear hcl2 hcl
       have hfile : w5.heap[x.fb k]? = some (fileC (.slice A (fileAt m.files k).all.length c) (fileAt m.files k).safe.length) := by
        have h1 := CUT5.out.1.file k hk
        have e1 : fileAt fs k = fileAt m.files k := by rw [CUT5.out.2.2.1 k hk, if_neg (by simp [HLEFT.out])]
        have h2 : w5.heap[x.fb k]? = some (fileC (bv' k) (fileAt fs k).safe.length) := h1
        rw [h2, e1, HBV.out]
       have hset5 := set_same hfile 0 (.slice A ((fileAt m.files k).safe.length + clamp bytes (fileAt m.files k).loose.length) c)
       obtain ⟨bv2, fs2, hcut6⟩ := CUT5.out.step hk HMEM.out HLEFT.out HBV.out
       generalize hn : (fileAt m.files k).safe.length + clamp bytes (fileAt m.files k).loose.length = n at *
       have d0 : (w5.setCell ⟨x.fb k, 0, none⟩ (.slice A n c)).drew.cell? ⟨x.fb k, 0, none⟩ = some (.slice A n c) := cell_at hset5 0
       have y1 : (w5.setCell ⟨x.fb k, 0, none⟩ (.slice A n c)).drew.frozen? ⟨x.fb k, 1, none⟩ = false := melt_at hset5 1
       have d1 : (w5.setCell ⟨x.fb k, 0, none⟩ (.slice A n c)).drew.cell? ⟨x.fb k, 1, none⟩ = some (.int .i64 ((fileAt m.files k).safe.length : Nat)) := cell_at hset5 1
       go_wp2
       have hfb : x.fb k < w.heap.size := HLT.out _ (.inr (.inr (.inr (.inr ⟨k, hk, .inl rfl⟩))))
       have GO6 : SetGoes ((w5.setCell ⟨x.fb k, 0, none⟩ (.slice A n c)).setCell ⟨x.fb k, 1, none⟩ (.int .i64 (n : Nat))).drew w.heap.size R l (fun z => left z && !decide (z = x.K k)) cnt5 :=
        GO5.out.kept ((set_other 1 _ (by omega)).trans (set_other 0 _ (by omega))) ((set_other 1 _ (by omega)).trans (set_other 0 _ (by omega)))
       go_roundw
       case rel => exact ⟨_, cnt5, bv2, fs2, GO6, hcut6.move (fun i _ => rfl) hcut6.2.2.2.1.drewA⟩
       case measure => rw [GO6.left_eq, GO0.out.left_eq]; exact hlt5
  ·intro s q kl y0 yp w1 cnt1 hkey hlx hy hat hrg1 hlt hg1 hs1 hen
   obtain ⟨s', es, rfl⟩ := string_key_inv hkey
   obtain rfl : s = s' := by injection es
   have hy0 : y0 = .held (.pointer q) := (congrArg Prod.fst (Option.some.inj hy)).symm
   have hat0 := hat (.held (.pointer none))
   have hat1 := hat .nil
   rw [dir_at, hy0] at hat0 hat1
   obtain ⟨k, hk, hq⟩ : ∃ k, look m.safe s.data.toList = some k ∧ q = some (x.K k) := by
    cases hl : look m.safe s.data.toList with
    | none => rw [hl] at hat1; cases hat1
    | some k =>
     rw [hl] at hat0
     simp [ptrK] at hat0
     exact ⟨k, rfl, hat0.symm⟩
   subst hq
   have hmem := look_mem hk
   have hlive : Live m k := .inl ⟨_, hmem⟩
   have ht1 : Tch (fun _ => False) w w1 := ht.andGrown hg1 (fun j hj => .inr (by have := Option.some.inj hj; omega))
   have pp1 := PP0.out.tch ht1
   have hset1 : SetIs w1 w.heap.size l := by
    obtain ⟨es, clock, hb, rest⟩ := hset
    exact ⟨es, clock, (hg1.block _ (blk_lt hb) (fun e => by have := Option.some.inj e; omega)).trans hb, rest⟩
   have SET1 := Lib.hid hset1
   have HF := Lib.hid (pp1.isFile (pp1.live k hlive))
   have HFL := Lib.hid (show ∀ c ∈ l, IsFile w1 c from fun c hc => by obtain ⟨j, hj, rfl⟩ := hreach c hc; exact pp1.isFile (pp1.live j hj))
   have HRG := Lib.hid hrg1
   have HRG0 := Lib.hid hrg
   have HT := Lib.hid ht1
   have HALL := Lib.hid (safe_in HI.out.sorted hmem hall)
   have HRE := Lib.hid (hreach.add hlive)
   clear hrg1 hrg ht1 pp1 hy hat hat0 hat1 hkey hg1 ht hset hset1 hall hreach hk hmem
   show wpList Tryz.prog _ _ _ { tmps := _, defers := [] } w1
   go_wp2_with (first
    | (at_mapUpdate; refine wpList_set_add rfl _ _ _ rfl rfl SET1.out rfl HF.out HFL.out ?_; intro w2 hset2 hg2)
    | go_in)
   go_frame
   go_roundw
   case rel => exact ⟨_, cnt1, _, HRG.out.kept hg2 (by simp; intro e; have := HLT.out x.bs (.inr (.inl rfl)); omega) (by simp), hset2, HRE.out, HALL.out, HT.out.andGrown hg2 (fun j hj => .inr (by have := Option.some.inj hj; omega))⟩
   case measure => rw [(HRG.out.kept hg2 (by simp; intro e; have := HLT.out x.bs (.inr (.inl rfl)); omega) (by simp)).left_eq, HRG0.out.left_eq]; exact hlt
/-- The steps' names are no longer than a text may be. -/
def Short (m : Mach) : Prop := ∀ s ∈ m.steps, s.1.length ≤ 100000000000000
/-- A method has answered r.1, and the plate holds the machine r.2. -/
def Done (bp : Nat) (F : Nat → Prop) (w : World) (r : Int × Mach) (e : Ending) (w' : World) : Prop := e = .returned (.int .i64 r.1) ∧ Plate w' bp r.2 (grow F w w') ∧ Tch F w w'
section
variable {C bp : Nat} {m m' : Mach} {x : Pt} {Lv F : Nat → Prop} {w w' : World} {r : Int × Mach} {n : Int} {e : Ending}
theorem Done.same (pp : PP w bp m x Lv) (hF : ∀ i, foot bp x Lv i → F i) (h : r = (n, m)) : ∀ e w', e = Ending.returned (.int .i64 n) ∧ Tch (fun _ => False) w w' → Done bp F w r e w' := by
 rintro e w' ⟨he, ht⟩
 rw [h]
 exact ⟨he, (Res.same pp ht).plate hF⟩
theorem Done.res (hF : ∀ i, foot bp x Lv i → F i) (h : r = (0, m')) : ∀ e w', e = Ending.returned (.int .i64 0) ∧ Res w w' bp m' x Lv → Done bp F w r e w' := by
 rintro e w' ⟨he, hr⟩
 rw [h]
 exact ⟨he, hr.plate hF⟩
theorem len_ok {s : ByteArray} (hs : s.size ≤ 100000000000000) : s.size ≤ maxLen := by unfold maxLen; omega
theorem Sync_calls (s : ByteArray) (hP : Plate w bp m F) (hi : Inv C m) (hs : s.size ≤ 100000000000000) :
  Calls Tryz.prog 106 #[.pointer (some ⟨bp, 0, none⟩), .string s] w (Done bp F w (sync m s.data.toList)) := by
 obtain ⟨x, Lv, pp, hF⟩ := hP
 have hs' := len_ok hs
 cases hl : m.find s.data.toList with
 | none => exact (syncW_none s pp hs' hl).mono (Done.same pp hF (by unfold sync; rw [hl]))
 | some k =>
  by_cases hp : m.power = 0
  ·exact (syncW_dead s k pp hs' hl hp).mono (Done.same pp hF (by unfold sync; rw [hl]; simp only; rw [if_pos hp]))
  ·exact (syncW_ok s k pp hs' hl (fun j hj => pp.live j (live_now hj)) hp hi.pow0 hi.pow1).mono (Done.res hF (by unfold sync; rw [hl]; simp only; rw [if_neg hp]))
theorem Remove_calls (s : ByteArray) (hP : Plate w bp m F) (hi : Inv C m) (hC : C ≤ 10000000) (hs : s.size ≤ 100000000000000) :
  Calls Tryz.prog 97 #[.pointer (some ⟨bp, 0, none⟩), .string s] w (Done bp F w (remove m s.data.toList)) := by
 obtain ⟨x, Lv, pp, hF⟩ := hP
 have hs' := len_ok hs
 have hlen := hi.now_len
 have hst := hi.count
 cases hl : m.find s.data.toList with
 | none => exact (removeW_none s pp hs' hl).mono (Done.same pp hF (by unfold remove; rw [hl]))
 | some k =>
  by_cases hp : m.power = 0
  ·exact (removeW_dead s k pp hs' hl hp).mono (Done.same pp hF (by unfold remove; rw [hl]; simp only; rw [if_pos hp]))
  ·exact (removeW_ok s k pp hs' hl hp hi.pow0 hi.pow1 hs (by omega) (by omega)).mono (Done.res hF (by unfold remove; rw [hl]; simp only; rw [if_neg hp]))
theorem Rename_calls (s t : ByteArray) (hP : Plate w bp m F) (hi : Inv C m) (hC : C ≤ 10000000) (hs : s.size ≤ 100000000000000) (ht : t.size ≤ 100000000000000) :
  Calls Tryz.prog 66 #[.pointer (some ⟨bp, 0, none⟩), .string s, .string t] w (Done bp F w (rename m s.data.toList t.data.toList)) := by
 obtain ⟨x, Lv, pp, hF⟩ := hP
 have hs' := len_ok hs
 have hlen := hi.now_len
 have hst := hi.count
 cases hl : m.find s.data.toList with
 | none => exact (renameW_none s t pp hs' hl).mono (Done.same pp hF (by unfold rename; rw [hl]))
 | some k =>
  cases hn : nameOk t.data.toList with
  | false => exact (renameW_bad s t k pp hs' hl hn).mono (Done.same pp hF (by unfold rename; rw [hl]; simp only; rw [if_pos hn]))
  | true =>
   have hn' : ¬ nameOk t.data.toList = false := by rw [hn]; decide
   by_cases hp : m.power = 0
   ·exact (renameW_dead s t k pp hs' hl hn hp).mono (Done.same pp hF (by unfold rename; rw [hl]; simp only; rw [if_neg hn', if_pos hp]))
   ·by_cases hab : s.data.toList = t.data.toList
    ·exact (renameW_self s t k pp hs' hl hn (by rw [ByteArray.toList_eq, ByteArray.toList_eq]; exact hab) hp hi.pow0 hi.pow1).mono (Done.res hF (by unfold rename; rw [hl]; simp only; rw [if_neg hn', if_neg hp, if_pos hab]))
    ·refine (renameW_ok s t k pp hs' hl (fun j hj => pp.live j (live_now hj)) hn (by rw [ByteArray.toList_eq, ByteArray.toList_eq]; exact hab) ?_ hp hi.pow0 hi.pow1 ?_ ?_ ?_).mono (Done.res hF (by unfold rename; rw [hl]; simp only; rw [if_neg hn', if_neg hp, if_neg hab]))
     all_goals omega
theorem Write_calls (s t : ByteArray) (hP : Plate w bp m F) (hi : Inv C m) (hC : C ≤ 100000000) (hs : s.size ≤ 100000000000000) (ht : t.size ≤ 1000000000) :
  Calls Tryz.prog 11 #[.pointer (some ⟨bp, 0, none⟩), .string s, .string t] w (Done bp F w (write m s.data.toList t.data.toList)) := by
 obtain ⟨x, Lv, pp, hF⟩ := hP
 have hs' := len_ok hs
 have hlt : t.size = t.data.toList.length := Lib.size_eq t
 cases hl : m.find s.data.toList with
 | none => exact (writeW_none s t pp hs' hl).mono (Done.same pp hF (by unfold write; rw [hl]))
 | some k =>
  by_cases hr : m.room - (used m.files m.now : Int) < t.size
  ·exact (writeW_full s t k pp hs' hl hi hC ht hr).mono (Done.same pp hF (by unfold write; rw [hl]; simp only; rw [if_pos (by rw [← hlt]; exact hr)]))
  ·have hr' : ¬ m.room - (used m.files m.now : Int) < t.data.toList.length := by rw [← hlt]; exact hr
   by_cases hp : m.power = 0
   ·exact (writeW_dead s t k pp hs' hl hi hC ht hr hp).mono (Done.same pp hF (by unfold write; rw [hl]; simp only; rw [if_neg hr', if_pos hp]))
   ·exact (writeW_ok s t k pp hs' hl (fun j hj => pp.live j (live_now hj)) hi hC ht hr hp hi.pow0 hi.pow1).mono (Done.res hF (by unfold write; rw [hl]; simp only; rw [if_neg hr', if_neg hp]))
theorem SyncDir_calls (hP : Plate w bp m F) (hi : Inv C m) :
  Calls Tryz.prog 28 #[.pointer (some ⟨bp, 0, none⟩)] w (Done bp F w (syncDir m)) := by
 obtain ⟨x, Lv, pp, hF⟩ := hP
 by_cases hp : m.power = 0
 ·exact (syncdirW_dead pp hp).mono (Done.same pp hF (by unfold syncDir; rw [if_pos hp]))
 ·exact (syncdirW_ok pp hp hi.pow0 hi.pow1).mono (Done.res hF (by unfold syncDir; rw [if_neg hp]))
theorem Read_calls (s : ByteArray) (hP : Plate w bp m F) (hs : s.size ≤ 100000000000000) :
  Calls Tryz.prog 47 #[.pointer (some ⟨bp, 0, none⟩), .string s] w fun e w' => e = .returned (.tuple #[.string (mkB (read m s.data.toList).1), .int .i64 (read m s.data.toList).2]) ∧ Plate w' bp m F ∧ Tch (fun _ => False) w w' := by
 obtain ⟨x, Lv, pp, hF⟩ := hP
 have hs' := len_ok hs
 cases hl : m.find s.data.toList with
 | none =>
  refine (readW_none s pp hs' hl).mono ?_
  rintro e w' ⟨he, ht⟩
  refine ⟨?_, ⟨x, Lv, pp.tch ht, hF⟩, ht⟩
  rw [he]
  unfold read
  rw [hl]
  rfl
 | some k =>
  refine (readW_ok s k pp hs' hl).mono ?_
  rintro e w' ⟨he, ht⟩
  refine ⟨?_, ⟨x, Lv, pp.tch ht, hF⟩, ht⟩
  rw [he]
  unfold read
  rw [hl]
theorem List_calls (hP : Plate w bp m F) (hi : Inv C m) (hC : C ≤ 100000000) :
  Calls Tryz.prog 31 #[.pointer (some ⟨bp, 0, none⟩)] w fun e w' => ∃ v, e = .returned v ∧ w'.ownsRow w.heap.size 9 1 v m.now.length ((list m).map fun n => Value.string (mkB n)) ∧ Plate w' bp m F ∧ Below w.heap.size w w' := by
 obtain ⟨x, Lv, pp, hF⟩ := hP
 refine (listW pp hi.now_sorted (by have := hi.now_len; omega)).mono ?_
 rintro e w' ⟨v, he, ho, hb⟩
 exact ⟨v, he, ho, ⟨x, Lv, pp.tch (.of_below hb), hF⟩, hb⟩
theorem Limit_calls (k : Int) (hP : Plate w bp m F) :
  Calls Tryz.prog 23 #[.pointer (some ⟨bp, 0, none⟩), .int .i64 k] w fun e w' => e = .returned (.tuple #[]) ∧ Plate w' bp (limit m k) (grow F w w') ∧ Tch F w w' := by
 obtain ⟨x, Lv, pp, hF⟩ := hP
 refine (limitW k pp).mono ?_
 rintro e w' ⟨he, rfl⟩
 exact ⟨he, (Res.now (pp.power (max k (-1))) ((Tch.refl _ w).andSet _ (.inl (.inl rfl)))).plate hF⟩
theorem Crash_calls (a b : Int) (hP : Plate w bp m F) (hi : Inv C m) (hC : C ≤ 100000000) (hn : Short m) :
  Calls Tryz.prog 24 #[.pointer (some ⟨bp, 0, none⟩), .int .i64 a, .int .i64 b] w fun e w' => e = .returned (.tuple #[]) ∧ Plate w' bp (crash m a b) (grow F w w') ∧ Tch F w w' := by
 obtain ⟨x, Lv, pp, hF⟩ := hP
 refine (crashW a b pp hi hC hn).mono ?_
 rintro e w' ⟨he, hr⟩
 exact ⟨he, hr.plate hF⟩
theorem Short.create (h : Short m) {n : L} (hn : n.length ≤ 100000000000000) : Short (create m n).2 := by
 unfold Pl.create
 (repeat' split) <;> first
  | exact h
  | (intro s hs; rcases List.mem_append.1 hs with hs | hs; exact h s hs; rw [List.mem_singleton.1 hs]; exact hn)
theorem Short.write (h : Short m) (n t : L) : Short (write m n t).2 := by
 unfold Pl.write
 (repeat' split) <;> exact h
theorem Short.sync (h : Short m) (n : L) : Short (sync m n).2 := by
 unfold Pl.sync
 (repeat' split) <;> exact h
theorem Short.rename (h : Short m) {a b : L} (ha : a.length ≤ 100000000000000) (hb : b.length ≤ 100000000000000) : Short (rename m a b).2 := by
 unfold Pl.rename
 split
 ·exact h
 ·split
  ·exact h
  ·split
   ·exact h
   ·intro s hs
    simp only at hs
    split at hs
    ·exact h s hs
    ·rcases List.mem_append.1 hs with hs | hs
     ·exact h s hs
     ·simp at hs
      rcases hs with rfl | rfl
      ·exact hb
      ·exact ha
theorem Short.remove (h : Short m) {n : L} (hn : n.length ≤ 100000000000000) : Short (remove m n).2 := by
 unfold Pl.remove
 (repeat' split) <;> first
  | exact h
  | (intro s hs; rcases List.mem_append.1 hs with hs | hs; exact h s hs; rw [List.mem_singleton.1 hs]; exact hn)
theorem Short.syncDir (h : Short m) : Short (syncDir m).2 := by
 unfold Pl.syncDir
 split
 ·exact h
 ·intro s hs
  simp at hs
theorem Short.crash (a b : Int) : Short (crash m a b) := by
 intro s hs
 simp [Pl.crash] at hs
theorem Short.fresh (k : Int) : Short (fresh k) := by
 intro s hs
 simp [Pl.fresh] at hs
theorem Short.limit (h : Short m) (k : Int) : Short (limit m k) := h
end
theorem less_before : ∀ a b : L, Op.bytesLess a b = bytesBefore a b
 | [], [] => rfl
 | [], _ :: _ => rfl
 | _ :: _, [] => rfl
 | a :: x, b :: y => by
  show (decide (a < b) || (a == b && Op.bytesLess x y)) = (decide (a < b) || (a == b && bytesBefore x y))
  rw [less_before x y]
end Go.Proofs.YtfpbpakgajddnaaGreatDoor.Pl
