/- Texts of this seat, joined: lemmas and walks that its statements' proofs use. -/
import Derived.Test.YtblmjnknagpacaaK4
/- PlSc -/
namespace Go.Proofs.Ytblmjnknagpacaa.Pl
open Go Go.RowKit Go.Maps Go.Proofs.YtblmjnknagpacaaW.PrintWords
set_option linter.unusedVariables false
set_option linter.unusedSimpArgs false
section
variable {w : World} {bp br : Nat} {m mr : Mach} {H : Nat → Prop} {C : Nat}
set_option maxRecDepth 100000 in
set_option maxHeartbeats 4000000 in
theorem same_read (q k n mm : Int) (a b s : ByteArray) (hq : bits BinOp.and IntKind.i64 q 15 = k) (hk : k = 10) (h : Two w bp br m mr H) (hi : Inv C m) (hir : Inv C mr) (hC : C ≤ 10000000) (ha : a.size ≤ 100000000000000) :
    Calls Try.prog 12 #[.pointer (some ⟨bp, 0, none⟩), .pointer (some ⟨br, 0, none⟩), .agg #[.int .i64 q, .string a, .string b, .string s, .int .i64 n, .int .i64 mm]] w fun e w' => ∃ z, e = .returned (.bool z) ∧ Two w' bp br m mr (grow H w w') ∧ Tch H w w' := by
  obtain ⟨F, G, hp, hr⟩ := h.parts
  have T0 := Lib.hid (show Tch (fun _ => False) w (w.alloc (.cells #[.int .i64 q, .string a, .string b, .string s, .int .i64 n, .int .i64 mm] 37)) from (Tch.alloc _ w _))
  have HP := Lib.hid (Read_calls (w := (w.alloc (.cells #[.int .i64 q, .string a, .string b, .string s, .int .i64 n, .int .i64 mm] 37))) a (hp.next T0.out (fun _ _ _ h => h)) ha)
  have HR := Lib.hid (fun (w1 : World) (t1 : Tch (fun _ => False) (w.alloc (.cells #[.int .i64 q, .string a, .string b, .string s, .int .i64 n, .int .i64 mm] 37)) w1) => ReadR_calls a ((hr.next T0.out (fun _ _ _ h => h)).next t1 (fun _ _ _ h => h)) hir zb6)
  have HB := Lib.hid (fun (w1 : World) (t1 : Tch (fun _ => False) (w.alloc (.cells #[.int .i64 q, .string a, .string b, .string s, .int .i64 n, .int .i64 mm] 37)) w1) => box_keep0 t1 (fun _ h => h.elim))
  have HH := Lib.hid h
  clear hp hr h
  subst hk
  generalize (read m a.data.toList) = rp at *
  generalize (read mr a.data.toList) = rr at *
  obtain ⟨tp, ep⟩ := rp
  obtain ⟨tr, er⟩ := rr
  obtain ⟨z, hz⟩ : ∃ z, ((mkB tp).toList == (mkB tr).toList) = z := ⟨_, rfl⟩
  cases z
  all_goals
    go_enter Try.func12, Try.ntmps12
    go_wp2_with (first
      | (go_at_call 18; refine HP.out.mono ?_; rintro e w1 ⟨rfl, hp1, ht1⟩; have HT1 := Lib.hid ht1; have hb1 := HB.out _ ht1; have c1 : w1.cell? ⟨w.heap.size, 1, none⟩ = some (.string a) := cell_at hb1 1; clear hp1 ht1 hb1)
      | (go_at_call 32; refine (HR.out _ HT1.out).mono ?_; rintro e w3 ⟨rfl, hr3, hb3⟩; have HB3 := Lib.hid hb3; clear hr3 hb3)
      | go_in)
    go_ret
    obtain ⟨h1, h2⟩ := HH.out.same ((T0.out.trans HT1.out (fun _ h => h.elim)).andBelow HB3.out)
    exact ⟨_, rfl, h1, h2⟩
set_option maxRecDepth 100000 in
set_option maxHeartbeats 4000000 in
theorem same_list (q k n mm : Int) (a b s : ByteArray) (hq : bits BinOp.and IntKind.i64 q 15 = k) (hk : k = 11) (h : Two w bp br m mr H) (hi : Inv C m) (hir : Inv C mr) (hC : C ≤ 10000000) :
    Calls Try.prog 12 #[.pointer (some ⟨bp, 0, none⟩), .pointer (some ⟨br, 0, none⟩), .agg #[.int .i64 q, .string a, .string b, .string s, .int .i64 n, .int .i64 mm]] w fun e w' => ∃ z, e = .returned (.bool z) ∧ Two w' bp br m mr (grow H w w') ∧ Tch H w w' := by
  obtain ⟨F, G, hp, hr⟩ := h.parts
  have T0 := Lib.hid (show Tch (fun _ => False) w (w.alloc (.cells #[.int .i64 q, .string a, .string b, .string s, .int .i64 n, .int .i64 mm] 37)) from (Tch.alloc _ w _))
  have HP := Lib.hid (List_calls (w := (w.alloc (.cells #[.int .i64 q, .string a, .string b, .string s, .int .i64 n, .int .i64 mm] 37))) (hp.next T0.out (fun _ _ _ h => h)) hi zb6)
  have HR := Lib.hid (fun (w1 : World) (t1 : Tch (fun _ => False) (w.alloc (.cells #[.int .i64 q, .string a, .string b, .string s, .int .i64 n, .int .i64 mm] 37)) w1) => ListR_calls ((hr.next T0.out (fun _ _ _ h => h)).next t1 (fun _ _ _ h => h)) hir zb6)
  have hnl := hi.now_len
  have hll : ∀ m : Mach, (list m).length = m.now.length := fun m => by unfold list; rw [List.length_map]
  have HS := Lib.hid (fun (W : World) (b1 b2 : Nat) (v1 v2 : Value) (h1 : W.ownsRow b1 9 1 v1 m.now.length ((list m).map fun n => Value.string (mkB n))) (h2 : W.ownsRow b2 9 1 v2 mr.now.length ((list mr).map fun n => Value.string (mkB n))) => any_texts (list m) (list mr) (by rw [hll]; omega) (by rw [hll]; exact h1) (by rw [hll]; exact h2))
  have HH := Lib.hid h
  clear hp hr h hnl hll
  subst hk
  go_enter Try.func12, Try.ntmps12
  go_wp2_with (first
    | (go_at_call 20; refine HP.out.mono ?_; rintro e w1 ⟨v1, rfl, ho1, hp1, hb1⟩; have HT1 := Lib.hid (Tch.of_below (F := fun _ => False) hb1); have HO1 := Lib.hid ho1; clear hp1 hb1 ho1)
    | (go_at_call 31; refine (HR.out _ HT1.out).mono ?_; rintro e w3 ⟨v3, rfl, ho3, hr3, hb3⟩; have HB3 := Lib.hid hb3; have HO3 := Lib.hid ho3; clear hr3 hb3 ho3)
    | (go_at_call 21; refine (HS.out _ _ _ _ _ (own_below HO1.out HB3.out) HO3.out).mono ?_; rintro e w4 ⟨z4, rfl, hb4⟩; have HB4 := Lib.hid hb4; clear hb4)
    | go_in)
  go_ret
  obtain ⟨h1, h2⟩ := HH.out.same (((T0.out.trans HT1.out (fun _ h => h.elim)).andBelow HB3.out).andBelow HB4.out)
  exact ⟨_, rfl, h1, h2⟩
set_option maxRecDepth 100000 in
set_option maxHeartbeats 4000000 in
theorem same_limit (q k n mm : Int) (a b s : ByteArray) (hq : bits BinOp.and IntKind.i64 q 15 = k) (hk : k = 12) (h : Two w bp br m mr H) :
    Calls Try.prog 12 #[.pointer (some ⟨bp, 0, none⟩), .pointer (some ⟨br, 0, none⟩), .agg #[.int .i64 q, .string a, .string b, .string s, .int .i64 n, .int .i64 mm]] w fun e w' => ∃ z, e = .returned (.bool z) ∧ Two w' bp br (limit m n) (limit mr n) (grow H w w') ∧ Tch H w w' := by
  obtain ⟨F, G, hp, hr, hd, hF, hH⟩ := h
  have hFl : ∀ i, F i → i < w.heap.size := fun i hi => hH i (hF i (.inl hi))
  have T0 := Lib.hid (show Tch (fun _ => False) w (w.alloc (.cells #[.int .i64 q, .string a, .string b, .string s, .int .i64 n, .int .i64 mm] 37)) from (Tch.alloc _ w _))
  have HP := Lib.hid (Limit_calls (w := (w.alloc (.cells #[.int .i64 q, .string a, .string b, .string s, .int .i64 n, .int .i64 mm] 37))) n (hp.next T0.out (fun _ _ _ h => h)))
  have HR := Lib.hid (fun (w1 : World) (t1 : Tch F (w.alloc (.cells #[.int .i64 q, .string a, .string b, .string s, .int .i64 n, .int .i64 mm] 37)) w1) => LimitR_calls n ((hr.next T0.out (fun _ _ _ h => h)).next t1 (fun i hg _ hf => hd i hf hg)))
  have HB := Lib.hid (fun (w1 : World) (t1 : Tch F (w.alloc (.cells #[.int .i64 q, .string a, .string b, .string s, .int .i64 n, .int .i64 mm] 37)) w1) => box_keep0 t1 hFl)
  have HFIN := Lib.hid (fun (w1 w3 : World) (m' mr' : Mach) (hp1 : Plate w1 bp m' (grow F (w.alloc (.cells #[.int .i64 q, .string a, .string b, .string s, .int .i64 n, .int .i64 mm] 37)) w1)) (t1 : Tch F (w.alloc (.cells #[.int .i64 q, .string a, .string b, .string s, .int .i64 n, .int .i64 mm] 37)) w1) (hr3 : RPlate w3 br mr' (grow G w1 w3)) (t3 : Tch G w1 w3) => two_done hd hF hH T0.out hp1 t1 (Tch.refl _ _) hr3 t3)
  clear hp hr hd hF hH hFl
  subst hk
  go_enter Try.func12, Try.ntmps12
  go_wp2_with (first
    | (go_at_call 14; refine HP.out.mono ?_; rintro e w1 ⟨rfl, hp1, ht1⟩; have HP1 := Lib.hid hp1; have HT1 := Lib.hid ht1; have hb1 := HB.out _ ht1; have c4 : w1.cell? ⟨w.heap.size, 4, none⟩ = some (.int .i64 n) := cell_at hb1 4; clear hp1 ht1 hb1)
    | (go_at_call 40; refine (HR.out _ HT1.out).mono ?_; rintro e w3 ⟨rfl, hr3, ht3⟩; have HR3 := Lib.hid hr3; have HT3 := Lib.hid ht3; clear hr3 ht3)
    | go_in)
  go_ret
  obtain ⟨h1, h2⟩ := HFIN.out _ _ _ _ HP1.out HT1.out HR3.out HT3.out
  exact ⟨_, rfl, h1, h2⟩
set_option maxRecDepth 100000 in
set_option maxHeartbeats 4000000 in
theorem same_crash (q k n mm : Int) (a b s : ByteArray) (hq : bits BinOp.and IntKind.i64 q 15 = k) (hk : k = 13) (h : Two w bp br m mr H) (hi : Inv C m) (hir : Inv C mr) (hC : C ≤ 10000000) (hsh : Short m) :
    Calls Try.prog 12 #[.pointer (some ⟨bp, 0, none⟩), .pointer (some ⟨br, 0, none⟩), .agg #[.int .i64 q, .string a, .string b, .string s, .int .i64 n, .int .i64 mm]] w fun e w' => ∃ z, e = .returned (.bool z) ∧ Two w' bp br (crash m n mm) (crash mr n mm) (grow H w w') ∧ Tch H w w' := by
  obtain ⟨F, G, hp, hr, hd, hF, hH⟩ := h
  have hFl : ∀ i, F i → i < w.heap.size := fun i hi => hH i (hF i (.inl hi))
  have T0 := Lib.hid (show Tch (fun _ => False) w (w.alloc (.cells #[.int .i64 q, .string a, .string b, .string s, .int .i64 n, .int .i64 mm] 37)) from (Tch.alloc _ w _))
  have HP := Lib.hid (Crash_calls (w := (w.alloc (.cells #[.int .i64 q, .string a, .string b, .string s, .int .i64 n, .int .i64 mm] 37))) n mm (hp.next T0.out (fun _ _ _ h => h)) hi zb6 hsh)
  have HR := Lib.hid (fun (w1 : World) (t1 : Tch F (w.alloc (.cells #[.int .i64 q, .string a, .string b, .string s, .int .i64 n, .int .i64 mm] 37)) w1) => CrashR_calls n mm ((hr.next T0.out (fun _ _ _ h => h)).next t1 (fun i hg _ hf => hd i hf hg)) hir zb6)
  have HB := Lib.hid (fun (w1 : World) (t1 : Tch F (w.alloc (.cells #[.int .i64 q, .string a, .string b, .string s, .int .i64 n, .int .i64 mm] 37)) w1) => box_keep0 t1 hFl)
  have HFIN := Lib.hid (fun (w1 w3 : World) (m' mr' : Mach) (hp1 : Plate w1 bp m' (grow F (w.alloc (.cells #[.int .i64 q, .string a, .string b, .string s, .int .i64 n, .int .i64 mm] 37)) w1)) (t1 : Tch F (w.alloc (.cells #[.int .i64 q, .string a, .string b, .string s, .int .i64 n, .int .i64 mm] 37)) w1) (hr3 : RPlate w3 br mr' (grow G w1 w3)) (t3 : Tch G w1 w3) => two_done hd hF hH T0.out hp1 t1 (Tch.refl _ _) hr3 t3)
  clear hp hr hd hF hH hFl hi hir hsh
  subst hk
  go_enter Try.func12, Try.ntmps12
  go_wp2_with (first
    | (go_at_call 19; refine HP.out.mono ?_; rintro e w1 ⟨rfl, hp1, ht1⟩; have HP1 := Lib.hid hp1; have HT1 := Lib.hid ht1; have hb1 := HB.out _ ht1; have c4 : w1.cell? ⟨w.heap.size, 4, none⟩ = some (.int .i64 n) := cell_at hb1 4; have c5 : w1.cell? ⟨w.heap.size, 5, none⟩ = some (.int .i64 mm) := cell_at hb1 5; clear hp1 ht1 hb1)
    | (go_at_call 41; refine (HR.out _ HT1.out).mono ?_; rintro e w3 ⟨rfl, hr3, ht3⟩; have HR3 := Lib.hid hr3; have HT3 := Lib.hid ht3; clear hr3 ht3)
    | go_in)
  go_ret
  obtain ⟨h1, h2⟩ := HFIN.out _ _ _ _ HP1.out HT1.out HR3.out HT3.out
  exact ⟨_, rfl, h1, h2⟩
/-- What a step of same leaves. -/
theorem Short.act (h : Short m) (k : Nat) {a b s : L} (ha : a.length ≤ 100000000000000) (hb : b.length ≤ 100000000000000) (n mm : Int) : Short (actM m k a b s n mm) := by
  unfold actM
  repeat' split
  · exact h.create ha
  · exact h.write a s
  · exact h.sync a
  · exact h.rename ha hb
  · exact h.remove ha
  · exact h.syncDir
  · exact h
  · exact h
  · exact h.limit n
  · exact Short.crash n mm
  · exact h.write a s
theorem same_calls (q : Int) (k : Nat) (n mm : Int) (a b s : ByteArray) (hq : bits BinOp.and IntKind.i64 q 15 = (k : Int)) (hk : k < 16) (h : Two w bp br m mr H) (hi : Inv C m) (hir : Inv C mr) (hC : C ≤ 10000000) (hsh : Short m) (ha : a.size ≤ 100000000000000) (hb : b.size ≤ 100000000000000) (hs : s.size ≤ 1000000000) :
    Calls Try.prog 12 #[.pointer (some ⟨bp, 0, none⟩), .pointer (some ⟨br, 0, none⟩), .agg #[.int .i64 q, .string a, .string b, .string s, .int .i64 n, .int .i64 mm]] w fun e w' => ∃ z, e = .returned (.bool z) ∧ Two w' bp br (actM m k a.data.toList b.data.toList s.data.toList n mm) (actM mr k a.data.toList b.data.toList s.data.toList n mm) (grow H w w') ∧ Tch H w w' := by
  unfold actM
  by_cases h1 : k < 3
  · rw [if_pos h1, if_pos h1]; exact same_create q k n mm a b s hq zb6 h hi hir hC ha
  · rw [if_neg h1, if_neg h1]
    by_cases h2 : k < 6
    · rw [if_pos h2, if_pos h2]; exact same_write q k n mm a b s hq zb6 h hi hir hC ha hs
    · rw [if_neg h2, if_neg h2]
      by_cases h3 : k = 6
      · rw [if_pos h3, if_pos h3]; exact same_sync q k n mm a b s hq zb6 h hi hir hC ha
      · rw [if_neg h3, if_neg h3]
        by_cases h4 : k = 7
        · rw [if_pos h4, if_pos h4]; exact same_rename q k n mm a b s hq zb6 h hi hir hC ha hb
        · rw [if_neg h4, if_neg h4]
          by_cases h5 : k = 8
          · rw [if_pos h5, if_pos h5]; exact same_remove q k n mm a b s hq zb6 h hi hir hC ha
          · rw [if_neg h5, if_neg h5]
            by_cases h6 : k = 9
            · rw [if_pos h6, if_pos h6]; exact same_syncDir q k n mm a b s hq zb6 h hi hir hC
            · rw [if_neg h6, if_neg h6]
              by_cases h7 : k = 10
              · rw [if_pos h7, if_pos h7]; exact same_read q k n mm a b s hq zb6 h hi hir hC ha
              · rw [if_neg h7, if_neg h7]
                by_cases h8 : k = 11
                · rw [if_pos h8, if_pos h8]; exact same_list q k n mm a b s hq zb6 h hi hir hC
                · rw [if_neg h8, if_neg h8]
                  by_cases h9 : k = 12
                  · rw [if_pos h9, if_pos h9]; exact same_limit q k n mm a b s hq zb6 h
                  · rw [if_neg h9, if_neg h9]
                    by_cases h10 : k = 13
                    · rw [if_pos h10, if_pos h10]; exact same_crash q k n mm a b s hq zb6 h hi hir hC hsh
                    · rw [if_neg h10, if_neg h10]; exact same_write q k n mm a b s hq zb6 h hi hir hC ha hs
end
/-- No name is longer than a text may be. -/
structure Tame (m : Mach) : Prop where
  safe : ∀ p ∈ m.safe, p.1.length ≤ 100000000000000
  short : Short m
section
variable {w : World} {bp br : Nat} {m : Mach} {H F : Nat → Prop} {C : Nat}
theorem Tame.after (h : Tame m) {l : List Stp} (hl : ∀ s ∈ l, s ∈ m.steps) : ∀ p ∈ after m.safe l, p.1.length ≤ 100000000000000 := by
  intro p hp
  rcases mem_after l m.safe p hp with h1 | h1
  · exact h.safe p h1
  · exact h.short _ (hl _ h1)
theorem Tame.now (h : Tame m) : ∀ p ∈ m.now, p.1.length ≤ 100000000000000 := h.after (fun _ h => h)
theorem Tame.fresh (k : Int) : Tame (fresh k) := ⟨fun p hp => by simp [Pl.fresh] at hp, Short.fresh k⟩
theorem write_safe (m : Mach) (n t : L) : (write m n t).2.safe = m.safe := by
  unfold write
  (repeat' split) <;> rfl
theorem Tame.act (h : Tame m) (k : Nat) {a b s : L} (ha : a.length ≤ 100000000000000) (hb : b.length ≤ 100000000000000) (n mm : Int) : Tame (actM m k a b s n mm) := by
  refine ⟨?_, h.short.act k ha hb n mm⟩
  unfold actM
  repeat' split
  · unfold create
    (repeat' split) <;> exact h.safe
  · rw [write_safe]; exact h.safe
  · unfold sync
    (repeat' split) <;> exact h.safe
  · unfold rename
    (repeat' split) <;> exact h.safe
  · unfold remove
    (repeat' split) <;> exact h.safe
  · unfold syncDir
    split
    · exact h.safe
    · exact h.now
  · exact h.safe
  · exact h.safe
  · exact h.safe
  · exact h.after (fun s hs => List.mem_of_mem_take hs)
  · rw [write_safe]; exact h.safe
set_option maxRecDepth 100000 in
set_option maxHeartbeats 4000000 in
theorem all_calls (h : Two w bp br m m H) (hi : Inv C m) (hC : C ≤ 10000000) (ht : Tame m) :
    Calls Try.prog 11 #[.pointer (some ⟨bp, 0, none⟩), .pointer (some ⟨br, 0, none⟩)] w fun e w' => e = .returned (.bool true) ∧ Below w.heap.size w w' := by
  obtain ⟨F, G, hp, hr⟩ := h.parts
  have hnl := hi.now_len
  have hll : (list m).length = m.now.length := by unfold list; rw [List.length_map]
  have HLL := Lib.hid hll
  have HLP := Lib.hid (fun (W : World) (hb : Below w.heap.size w W) => List_calls (hp.next (X := fun _ => False) (Tch.of_below hb) (fun _ _ _ h => h)) hi zb6)
  have HLR := Lib.hid (ListR_calls hr hi zb6)
  have HRP := Lib.hid (fun (W : World) (s : ByteArray) (hs : s.size ≤ 100000000000000) (hb : Below w.heap.size w W) => Read_calls s (hp.next (X := fun _ => False) (Tch.of_below hb) (fun _ _ _ h => h)) hs)
  have HRR := Lib.hid (fun (W : World) (s : ByteArray) (hb : Below w.heap.size w W) => ReadR_calls s (hr.next (X := fun _ => False) (Tch.of_below hb) (fun _ _ _ h => h)) hi zb6)
  have HS := Lib.hid (fun (W : World) (b1 b2 : Nat) (v1 v2 : Value) (h1 : W.ownsRow b1 9 1 v1 m.now.length ((list m).map fun n => Value.string (mkB n))) (h2 : W.ownsRow b2 9 1 v2 m.now.length ((list m).map fun n => Value.string (mkB n))) => same_texts (list m) (by rw [hll]; omega) (by rw [hll]; exact h1) (by rw [hll]; exact h2))
  have hname : ∀ (i : Nat) (n : L), (list m)[i]? = some n → (mkB n).size ≤ 100000000000000 := by
    intro i n hin
    obtain ⟨p, hpm, rfl⟩ := List.mem_map.1 (List.mem_of_getElem? hin)
    rw [mkB_size]
    exact ht.now p hpm
  have HNM := Lib.hid hname
  clear hp hr h ht hi hll hname
  go_enter Try.func11, Try.ntmps11
  go_wp2_with (first
    | (go_at_call 31; refine HLR.out.mono ?_; rintro e w1 ⟨v1, rfl, ho1, hr1, hb1⟩; have HB1 := Lib.hid hb1; obtain ⟨A1, c1, rfl⟩ := row_slice ho1; have HO1 := Lib.hid ho1; clear hr1 hb1 ho1)
    | (go_at_call 20; refine (HLP.out _ HB1.out).mono ?_; rintro e w2 ⟨v2, rfl, ho2, hp2, hb2⟩; have HB2 := Lib.hid hb2; have HO2 := Lib.hid ho2; clear hp2 hb2 ho2)
    | (go_at_call 21; refine (HS.out _ _ _ _ _ HO2.out (own_below HO1.out HB2.out)).mono ?_; rintro e w3 ⟨rfl, hb3⟩; have HB3 := Lib.hid (HB2.out.trans (hb3.mono HB2.out.size)); clear hb3)
    | go_in)
  go_loopw [6, 7, 8, 9, 10] (fun v6 _ _ _ _ wr => ∃ (i : Nat), v6 = Value.int .i64 (i : Int) ∧ i ≤ m.now.length ∧ Below w1.heap.size w1 wr)
    (fun v6 _ _ _ _ _ => m.now.length - (intOf v6).toNat)
  case atStart => exact ⟨0, rfl, Nat.zero_le _, HB3.out⟩
  case round =>
    obtain ⟨i, rfl, hil, hbr⟩ := hrel
    by_cases hlt : i < m.now.length
    · have hdec : ((i : Int) < (m.now.length : Int)) := by omega
      have hrow := own_below HO1.out hbr
      obtain ⟨g, rfl⟩ := row_at0 hrow hlt
      obtain ⟨nm, hnm⟩ : ∃ nm, (list m)[i]? = some nm := ⟨_, List.getElem?_eq_getElem (by rw [HLL.out]; exact hlt)⟩
      have hx : ((list m).map fun n => Value.string (mkB n))[i]? = some (Value.string (mkB nm)) := by rw [List.getElem?_map, hnm]; rfl
      have cA : wr.cell? ⟨g, i, none⟩ = some (Value.string (mkB nm)) := (hrow.cellAt i zb6).trans hx
      have hsz := HNM.out i nm hnm
      have hgl : g < w1.heap.size := by
        obtain ⟨_, e⟩ := row_block HO1.out (k := g) rfl
        exact blk_lt e
      have HBR := Lib.hid hbr
      have HWR := Lib.hid (HB1.out.trans (hbr.mono HB1.out.size))
      have HSZ := Lib.hid hsz
      clear hrow hnm hx hbr hsz
      generalize mkB nm = s at *
      go_wp2_with (first
        | (go_at_call 18; refine (HRP.out _ s HSZ.out HWR.out).mono ?_; rintro e w4 ⟨rfl, hp4, ht4⟩; have hb4 := ht4.below (Nat.le_refl _) (fun _ h => h.elim); have HB4 := Lib.hid (HBR.out.trans (hb4.mono HBR.out.size)); have HW4 := Lib.hid (HWR.out.trans (hb4.mono HWR.out.size)); have cA4 : w4.cell? ⟨g, i, none⟩ = some (Value.string s) := by { rw [hb4.cell (p := ⟨g, i, none⟩) (by have := HBR.out.size; show g < _; omega)]; exact cA }; clear hp4 ht4 hb4)
        | (go_at_call 32; refine (HRR.out _ s HW4.out).mono ?_; rintro e w5 ⟨rfl, hr5, hb5⟩; have HB5 := Lib.hid (HB4.out.trans (hb5.mono HB4.out.size)); clear hr5 hb5)
        | go_in)
      go_roundw
      case rel => exact ⟨i + 1, by push_cast; rfl, by omega, HB5.out⟩
      case measure =>
        show m.now.length - ((i : Int) + 1).toNat < m.now.length - (i : Int).toNat
        omega
    · have hdec : ¬ ((i : Int) < (m.now.length : Int)) := by omega
      have HBR := Lib.hid hbr
      clear hbr
      go_wp2
      go_ret
      exact ⟨rfl, HB1.out.trans (HBR.out.mono HB1.out.size)⟩
/-- A plate of the call's own. -/
def Mine (w0 w : World) (bp : Nat) (m : Mach) : Prop := Plate w bp m (fun i => w0.heap.size ≤ i) ∧ Below w0.heap.size w0 w
theorem Mine.next {w0 w w' : World} {m m' : Mach} (h : Mine w0 w bp m) (hp : Plate w' bp m' (grow (fun i => w0.heap.size ≤ i) w w')) (ht : Tch (fun i => w0.heap.size ≤ i) w w') : Mine w0 w' bp m' := by
  have h2 := h.2.size
  exact ⟨hp.widen (fun i hi => hi.elim id (fun h => by omega)), h.2.trans (ht.below h2 (fun _ h => h))⟩
theorem Mine.still {w0 w w' : World} {m : Mach} (h : Mine w0 w bp m) (hp : Plate w' bp m (fun i => w0.heap.size ≤ i)) (ht : Tch (fun _ => False) w w') : Mine w0 w' bp m :=
  ⟨hp, h.2.trans (ht.below h.2.size (fun _ h => h.elim))⟩
theorem awake_mach : ∃ M1 M2 M3 M4 M5 M6 : Mach, (create (fresh 10) [97]).2 = M1 ∧ (write M1 [97] [120, 121]).2 = M2 ∧ (syncDir M2).2 = M3 ∧ (create M3 [98]).2 = M4 ∧ crash M4 0 1 = M5 ∧ limit M5 0 = M6 ∧ read M5 [97] = ([120], 0) ∧ read M5 [98] = ([], 10) ∧ (create M6 [99]).1 = 13 ∧
    Inv 20 (fresh 10) ∧ Inv 20 M1 ∧ Inv 20 M2 ∧ Inv 20 M3 ∧ Inv 20 M4 ∧ Inv 20 M5 ∧ Inv 20 M6 ∧ Short M4 := by
  have i0 : Inv 4 (fresh 10) := fresh_inv 10 zb8 zb8 4
  have i1 := create_inv i0 [97]
  have i2 := write_inv i1 [97] [120, 121]
  have i3 := syncDir_inv i2
  have i4 := create_inv i3 [98]
  have i5 := crash_inv i4 0 1
  have i6 := limit_inv i5 0 zb8
  refine ⟨_, _, _, _, _, _, rfl, rfl, rfl, rfl, rfl, rfl, by decide +kernel, by decide +kernel, by decide +kernel, i0.mono zb8, i1.mono zb8, i2.mono zb8, i3.mono zb8, i4.mono zb8, i5.mono zb8, i6.mono zb8, ?_⟩
  exact ((((Short.fresh 10).create zb8).write _ _).syncDir).create zb8
set_option maxRecDepth 100000 in
set_option maxHeartbeats 4000000 in
theorem awake_calls (w : World) : Calls Try.prog 10 #[] w fun e w' => e = .returned (.bool true) ∧ Below w.heap.size w w' := by
  obtain ⟨M1, M2, M3, M4, M5, M6, e1, e2, e3, e4, e5, e6, r1, r2, r3, i0, i1, i2, i3, i4, i5, i6, sh⟩ := awake_mach
  have H0 := Lib.hid (newW_ok 10 w zb8 zb8)
  have H1 := Lib.hid (fun (W : World) (bp : Nat) (h : Mine w W bp (fresh 10)) => Create_calls bp (fresh 10) _ ⟨#[97]⟩ W h.1 i0 zb8 zb8)
  have H2 := Lib.hid (fun (W : World) (bp : Nat) (h : Mine w W bp M1) => (Write_calls ⟨#[97]⟩ ⟨#[120, 121]⟩ h.1 i1 zb8 zb8 zb8).mono (fun e w' hd => show e = .returned (.int .i64 (write M1 [97] [120, 121]).1) ∧ Plate w' bp (write M1 [97] [120, 121]).2 (grow (fun i => w.heap.size ≤ i) W w') ∧ Tch (fun i => w.heap.size ≤ i) W w' from hd))
  have H3 := Lib.hid (fun (W : World) (bp : Nat) (h : Mine w W bp M2) => (SyncDir_calls h.1 i2).mono (fun e w' hd => show e = .returned (.int .i64 (syncDir M2).1) ∧ Plate w' bp (syncDir M2).2 (grow (fun i => w.heap.size ≤ i) W w') ∧ Tch (fun i => w.heap.size ≤ i) W w' from hd))
  have H4 := Lib.hid (fun (W : World) (bp : Nat) (h : Mine w W bp M3) => Create_calls bp M3 _ ⟨#[98]⟩ W h.1 i3 zb8 zb8)
  have H5 := Lib.hid (fun (W : World) (bp : Nat) (h : Mine w W bp M4) => Crash_calls 0 1 h.1 i4 zb8 sh)
  have H6 := Lib.hid (fun (W : World) (bp : Nat) (h : Mine w W bp M5) => Read_calls ⟨#[97]⟩ h.1 zb8)
  have H7 := Lib.hid (fun (W : World) (bp : Nat) (h : Mine w W bp M5) => Read_calls ⟨#[98]⟩ h.1 zb8)
  have H8 := Lib.hid (fun (W : World) (bp : Nat) (h : Mine w W bp M5) => Limit_calls 0 h.1)
  have H9 := Lib.hid (fun (W : World) (bp : Nat) (h : Mine w W bp M6) => Create_calls bp M6 _ ⟨#[99]⟩ W h.1 i6 zb8 zb8)
  have d97 : (⟨#[97]⟩ : ByteArray).data.toList = [97] := rfl
  have d98 : (⟨#[98]⟩ : ByteArray).data.toList = [98] := rfl
  have d99 : (⟨#[99]⟩ : ByteArray).data.toList = [99] := rfl
  have dxy : (⟨#[120, 121]⟩ : ByteArray).data.toList = [120, 121] := rfl
  simp only [d97, d98, d99, dxy, e1, e2, e3, e4, e5, e6, r1, r2, r3] at H1 H2 H3 H4 H5 H6 H7 H8 H9
  have mx : mkB [120] = ⟨#[120]⟩ := rfl
  have mn : mkB [] = ⟨#[]⟩ := rfl
  rw [mx] at H6
  rw [mn] at H7
  clear e1 e2 e3 e4 e5 e6 r1 r2 r3 i0 i1 i2 i3 i4 i5 i6 sh d97 d98 d99 dxy mx mn
  go_enter Try.func10, Try.ntmps10
  go_wp2_with (first
    | (go_at_call 6; refine H0.out.mono ?_; rintro e w0 ⟨bp, rfl, hbp, hp, ht⟩; have P0 := Lib.hid (show Mine w w0 bp (fresh 10) from ⟨hp.widen (fun i hi => hi.1), ht.below (Nat.le_refl _) (fun _ h => h.elim)⟩); clear hbp hp ht)
    | (go_at_call 8; refine (H1.out _ _ P0.out).mono ?_; rintro e w1 ⟨rfl, hp, ht⟩; have P1 := Lib.hid (P0.out.next hp ht); clear hp ht P0)
    | (go_at_call 15; refine (H2.out _ _ P1.out).mono ?_; rintro e w2 ⟨rfl, hp, ht⟩; have P2 := Lib.hid (P1.out.next hp ht); clear hp ht P1)
    | (go_at_call 17; refine (H3.out _ _ P2.out).mono ?_; rintro e w3 ⟨rfl, hp, ht⟩; have P3 := Lib.hid (P2.out.next hp ht); clear hp ht P2)
    | (go_at_call 8; refine (H4.out _ _ P3.out).mono ?_; rintro e w4 ⟨rfl, hp, ht⟩; have P4 := Lib.hid (P3.out.next hp ht); clear hp ht P3)
    | (go_at_call 19; refine (H5.out _ _ P4.out).mono ?_; rintro e w5 ⟨rfl, hp, ht⟩; have P5 := Lib.hid (P4.out.next hp ht); clear hp ht P4)
    | (go_at_call 18; refine (H6.out _ _ P5.out).mono ?_; rintro e w6 ⟨rfl, hp, ht⟩; have P6 := Lib.hid (P5.out.still hp ht); clear hp ht P5)
    | (go_at_call 18; refine (H7.out _ _ P6.out).mono ?_; rintro e w7 ⟨rfl, hp, ht⟩; have P7 := Lib.hid (P6.out.still hp ht); clear hp ht P6)
    | (go_at_call 14; refine (H8.out _ _ P7.out).mono ?_; rintro e w8 ⟨rfl, hp, ht⟩; have P8 := Lib.hid (P7.out.next hp ht); clear hp ht P7)
    | (go_at_call 8; refine (H9.out _ _ P8.out).mono ?_; rintro e w9 ⟨rfl, hp, ht⟩; have P9 := Lib.hid (P8.out.next hp ht); clear hp ht P8)
    | go_in)
  go_ret
  exact ⟨rfl, P9.out.2⟩
end
end Go.Proofs.Ytblmjnknagpacaa.Pl
/- Px72 -/
namespace Go.Proofs.Ytblmjnknagpacaa.P
open Go.Proofs.Ytblmjnknagpacaa.B
open Go.RowKit Go.Proofs.YtblmjnknagpacaaW.PrintWords Go.Proofs.YtblmjnknagpacaaW.PrintLast Go.Proofs.YtblmjnknagpacaaW.PrintMore
attribute [local go_sem] run_store_float str_leq str_gtr str_geq max2_int min2_int max_two min_two max_three min_three max_four min_four
set_option linter.unusedVariables false
set_option linter.unusedSimpArgs false
def broadsheetlaw01_act.f (a0_0 : Int) (a0_1 : Int) (a0_2 : Int) (a0_3 : Int) (a0_4 : Int) : Option (Int × ByteArray × ByteArray × ByteArray × Int × Int) := if 0 ≤ (Int.tmod a0_1 3) then (if (Int.tmod a0_1 3) ≤ (((Int.tmod a0_1 3) + 1) % 256) then (if (((Int.tmod a0_1 3) + 1) % 256) ≤ 3 then (if 0 ≤ (Int.tmod a0_2 3) then (if (Int.tmod a0_2 3) ≤ (((Int.tmod a0_2 3) + 1) % 256) then (if (((Int.tmod a0_2 3) + 1) % 256) ≤ 3 then (if 0 ≤ (Int.tmod a0_3 7) then (if (Int.tmod a0_3 7) ≤ 6 then (some (wrap64 (a0_0), (⟨#[97, 98, 99]⟩ : ByteArray).extract ((Int.tmod a0_1 3) : Int).toNat ((((Int.tmod a0_1 3) + 1) % 256) : Int).toNat, (⟨#[97, 98, 99]⟩ : ByteArray).extract ((Int.tmod a0_2 3) : Int).toNat ((((Int.tmod a0_2 3) + 1) % 256) : Int).toNat, (⟨#[117, 118, 119, 120, 121, 122]⟩ : ByteArray).extract 0 ((Int.tmod a0_3 7) : Int).toNat, wrap64 ((Int.tmod (wrap64 (a0_3)) 9) - 1), wrap64 ((Int.tmod (wrap64 (a0_4)) 9) - 1))) else (none)) else (none)) else (none)) else (none)) else (none)) else (none)) else (none)) else (none)
set_option maxRecDepth 100000 in
theorem act_cut (j : Int) (h0 : 0 ≤ j) (h1 : j ≤ (j + 1) % 256) (h2 : (j + 1) % 256 ≤ 3) (W : World) : (Instr.slice 9 (.string ⟨#[97, 98, 99]⟩) (some (.int .u8 j)) (some (.int .u8 (IntKind.u8.wrap (j + 1)))) none).run Try.prog W = .ok (.string ((⟨#[97, 98, 99]⟩ : ByteArray).extract j.toNat ((j + 1) % 256).toNat)) W := by
  have : j = 0 ∨ j = 1 ∨ j = 2 := by omega
  rcases this with rfl | rfl | rfl <;> rfl
set_option maxRecDepth 100000 in
theorem act_cut2 (j : Int) (h0 : 0 ≤ j) (h1 : j ≤ 6) (W : World) : (Instr.slice 9 (.string ⟨#[117, 118, 119, 120, 121, 122]⟩) none (some (.int .u8 j)) none).run Try.prog W = .ok (.string ((⟨#[117, 118, 119, 120, 121, 122]⟩ : ByteArray).extract 0 j.toNat)) W := by
  have : j = 0 ∨ j = 1 ∨ j = 2 ∨ j = 3 ∨ j = 4 ∨ j = 5 ∨ j = 6 := by omega
  rcases this with rfl | rfl | rfl | rfl | rfl | rfl | rfl <;> rfl
def broadsheetlaw01_act.T1 : Bool × List (List Nat × List Nat) := (true, [([], []), ([0], [0]), ([1], [1]), ([], []), ([3], [3]), ([4], [4]), ([], []), ([6], [6]), ([7], [7]), ([8], [8]), ([5, 9], [5, 9]), ([], []), ([11], [11]), ([12], [12]), ([], []), ([14], [14]), ([15], [15]), ([16], [16]), ([13, 17], [13, 17]), ([], []), ([19], [19]), ([20], [20]), ([21], [21]), ([], []), ([23], [23]), ([24], [24]), ([25], [25]), ([26], [26]), ([], []), ([28], [28]), ([29], [29]), ([30], [30]), ([31], [31]), ([2, 10, 18, 22, 27, 32], [2, 10, 18, 22, 27, 32]), ([33, 0, 1, 2, 3, 4, 5, 6, 7, 8, 9, 10, 11, 12, 13, 14, 15, 16, 17, 18, 19, 20, 21, 22, 23, 24, 25, 26, 27, 28, 29, 30, 31, 32, 33], [33])])
def broadsheetlaw01_act.B1 : List Nat := [0, 1, 3, 0, 8, 24, 0, 64, 192, 448, 1016, 0, 2048, 6144, 0, 16384, 49152, 114688, 260096, 0, 524288, 1572864, 3670016, 0, 8388608, 25165824, 58720256, 125829120, 0, 268435456, 805306368, 1879048192, 4026531840, 8589934591, 17179869183]
theorem broadsheetlaw01_act.tab1 : rtab .any (opsOf Try.f13 1) = broadsheetlaw01_act.T1 := by kernel_rfl
theorem broadsheetlaw01_act.bits1 : waitsOk broadsheetlaw01_act.T1.2 broadsheetlaw01_act.B1 = true := by kernel_rfl
set_option maxHeartbeats 8000000 in
set_option maxRecDepth 100000 in
theorem broadsheetlaw01_act.calls (a0_0 : Int) (a0_1 : Int) (a0_2 : Int) (a0_3 : Int) (a0_4 : Int) (r1 : Int) (r2 : ByteArray) (r3 : ByteArray) (r4 : ByteArray) (r5 : Int) (r6 : Int) (w : World) (h : broadsheetlaw01_act.f a0_0 a0_1 a0_2 a0_3 a0_4 = some (r1, r2, r3, r4, r5, r6)) :
  Calls Try.prog 13 #[.agg #[.int .u8 a0_0, .int .u8 a0_1, .int .u8 a0_2, .int .u8 a0_3, .int .u8 a0_4]] w fun e w' => e = .returned (.agg #[.int .i64 r1, .string r2, .string r3, .string r4, .int .i64 r5, .int .i64 r6]) ∧ Below w.heap.size w w' := by
 have hu40 := Try.underlying40
 have hu37 := Try.underlying37
 have HB := Aside0.mk (Below.refl w.heap.size w)
 have H : (if 0 ≤ (Int.tmod a0_1 3) then (if (Int.tmod a0_1 3) ≤ (((Int.tmod a0_1 3) + 1) % 256) then (if (((Int.tmod a0_1 3) + 1) % 256) ≤ 3 then (if 0 ≤ (Int.tmod a0_2 3) then (if (Int.tmod a0_2 3) ≤ (((Int.tmod a0_2 3) + 1) % 256) then (if (((Int.tmod a0_2 3) + 1) % 256) ≤ 3 then (if 0 ≤ (Int.tmod a0_3 7) then (if (Int.tmod a0_3 7) ≤ 6 then (some (wrap64 (a0_0), (⟨#[97, 98, 99]⟩ : ByteArray).extract ((Int.tmod a0_1 3) : Int).toNat ((((Int.tmod a0_1 3) + 1) % 256) : Int).toNat, (⟨#[97, 98, 99]⟩ : ByteArray).extract ((Int.tmod a0_2 3) : Int).toNat ((((Int.tmod a0_2 3) + 1) % 256) : Int).toNat, (⟨#[117, 118, 119, 120, 121, 122]⟩ : ByteArray).extract 0 ((Int.tmod a0_3 7) : Int).toNat, wrap64 ((Int.tmod (wrap64 (a0_3)) 9) - 1), wrap64 ((Int.tmod (wrap64 (a0_4)) 9) - 1))) else (none)) else (none)) else (none)) else (none)) else (none)) else (none)) else (none)) else (none)) = some (r1, r2, r3, r4, r5, r6) := h
 clear h
 obtain ⟨ji2, hji2⟩ : ∃ j_ : Int, (Int.tmod a0_1 3) = j_ := ⟨_, rfl⟩
 replace H : (if 0 ≤ (ji2) then (if (ji2) ≤ (((ji2) + 1) % 256) then (if (((ji2) + 1) % 256) ≤ 3 then (if 0 ≤ (Int.tmod a0_2 3) then (if (Int.tmod a0_2 3) ≤ (((Int.tmod a0_2 3) + 1) % 256) then (if (((Int.tmod a0_2 3) + 1) % 256) ≤ 3 then (if 0 ≤ (Int.tmod a0_3 7) then (if (Int.tmod a0_3 7) ≤ 6 then (some (wrap64 (a0_0), (⟨#[97, 98, 99]⟩ : ByteArray).extract ((ji2) : Int).toNat ((((ji2) + 1) % 256) : Int).toNat, (⟨#[97, 98, 99]⟩ : ByteArray).extract ((Int.tmod a0_2 3) : Int).toNat ((((Int.tmod a0_2 3) + 1) % 256) : Int).toNat, (⟨#[117, 118, 119, 120, 121, 122]⟩ : ByteArray).extract 0 ((Int.tmod a0_3 7) : Int).toNat, wrap64 ((Int.tmod (wrap64 (a0_3)) 9) - 1), wrap64 ((Int.tmod (wrap64 (a0_4)) 9) - 1))) else (none)) else (none)) else (none)) else (none)) else (none)) else (none)) else (none)) else (none)) = some (r1, r2, r3, r4, r5, r6) := by first | (rw [hji2] at H; exact H) | (simp only [hji2] at H ⊢; exact H)
 by_cases c3 : 0 ≤ (ji2)
 ·rw [if_pos c3] at H
  have c3b0 := eq_true c3
  have c3b1 : decide (0 ≤ (ji2)) = true := decide_eq_true c3
  clear c3
  by_cases c4 : (ji2) ≤ (((ji2) + 1) % 256)
  ·rw [if_pos c4] at H
   have c4b0 := eq_true c4
   have c4b1 : decide ((ji2) ≤ (((ji2) + 1) % 256)) = true := decide_eq_true c4
   by_cases c5 : (((ji2) + 1) % 256) ≤ 3
   ·rw [if_pos c5] at H
    have c5b0 := eq_true c5
    have c5b1 : decide ((((ji2) + 1) % 256) ≤ 3) = true := decide_eq_true c5
    obtain ⟨ji6, hji6⟩ : ∃ j_ : Int, (Int.tmod a0_2 3) = j_ := ⟨_, rfl⟩
    replace H : (if 0 ≤ (ji6) then (if (ji6) ≤ (((ji6) + 1) % 256) then (if (((ji6) + 1) % 256) ≤ 3 then (if 0 ≤ (Int.tmod a0_3 7) then (if (Int.tmod a0_3 7) ≤ 6 then (some (wrap64 (a0_0), (⟨#[97, 98, 99]⟩ : ByteArray).extract ((ji2) : Int).toNat ((((ji2) + 1) % 256) : Int).toNat, (⟨#[97, 98, 99]⟩ : ByteArray).extract ((ji6) : Int).toNat ((((ji6) + 1) % 256) : Int).toNat, (⟨#[117, 118, 119, 120, 121, 122]⟩ : ByteArray).extract 0 ((Int.tmod a0_3 7) : Int).toNat, wrap64 ((Int.tmod (wrap64 (a0_3)) 9) - 1), wrap64 ((Int.tmod (wrap64 (a0_4)) 9) - 1))) else (none)) else (none)) else (none)) else (none)) else (none)) = some (r1, r2, r3, r4, r5, r6) := by first | (rw [hji6] at H; exact H) | (simp only [hji6] at H ⊢; exact H)
    by_cases c7 : 0 ≤ (ji6)
    ·rw [if_pos c7] at H
     have c7b0 := eq_true c7
     have c7b1 : decide (0 ≤ (ji6)) = true := decide_eq_true c7
     clear c7
     by_cases c8 : (ji6) ≤ (((ji6) + 1) % 256)
     ·rw [if_pos c8] at H
      have c8b0 := eq_true c8
      have c8b1 : decide ((ji6) ≤ (((ji6) + 1) % 256)) = true := decide_eq_true c8
      by_cases c9 : (((ji6) + 1) % 256) ≤ 3
      ·rw [if_pos c9] at H
       have c9b0 := eq_true c9
       have c9b1 : decide ((((ji6) + 1) % 256) ≤ 3) = true := decide_eq_true c9
       obtain ⟨ji10, hji10⟩ : ∃ j_ : Int, (Int.tmod a0_3 7) = j_ := ⟨_, rfl⟩
       replace H : (if 0 ≤ (ji10) then (if (ji10) ≤ 6 then (some (wrap64 (a0_0), (⟨#[97, 98, 99]⟩ : ByteArray).extract ((ji2) : Int).toNat ((((ji2) + 1) % 256) : Int).toNat, (⟨#[97, 98, 99]⟩ : ByteArray).extract ((ji6) : Int).toNat ((((ji6) + 1) % 256) : Int).toNat, (⟨#[117, 118, 119, 120, 121, 122]⟩ : ByteArray).extract 0 ((ji10) : Int).toNat, wrap64 ((Int.tmod (wrap64 (a0_3)) 9) - 1), wrap64 ((Int.tmod (wrap64 (a0_4)) 9) - 1))) else (none)) else (none)) = some (r1, r2, r3, r4, r5, r6) := by first | (rw [hji10] at H; exact H) | (simp only [hji10] at H ⊢; exact H)
       by_cases c11 : 0 ≤ (ji10)
       ·rw [if_pos c11] at H
        have c11b0 := eq_true c11
        have c11b1 : decide (0 ≤ (ji10)) = true := decide_eq_true c11
        clear c11
        by_cases c12 : (ji10) ≤ 6
        ·rw [if_pos c12] at H
         have c12b0 := eq_true c12
         have c12b1 : decide ((ji10) ≤ 6) = true := decide_eq_true c12
         clear c12
         simp only [Option.some.injEq, Prod.mk.injEq] at H
         obtain ⟨rfl, rfl, rfl, rfl, rfl, rfl⟩ := H
         go_enter Try.func13, Try.ntmps13
         try go_wp2_with (first | ((with_reducible refine gate_dst (N := 1) rfl ?_); refine box_event ?hg (N := 1) ?hd (cs := #[.int .u8 a0_0, .int .u8 a0_1, .int .u8 a0_2, .int .u8 a0_3, .int .u8 a0_4]) (t := 40) ?hr ?_; (case hd => rfl); (case hg => rfl); (case hr => first | (go_simp; done) | (go_simp; rfl)); intro gb246 hg w13 hbox hb; have n0_ := Aside0.mk (below_step zb4 hb); have n1_ := Aside0.mk (hbox); have n2_ := Aside0.mk ((by rw [hg]; exact (below_size zb4) : w.heap.size ≤ gb246)); have n3_ := Aside0.mk ((by rw [hg]; exact (below_size zb4) : w.heap.size ≤ gb246)); clear HB; have HB := n0_; have BK246 := n1_; have GW246 := n2_; have GE246 := n3_; clear n0_ n1_ n2_ n3_; clear hb hbox hg) | ((with_reducible refine gate_dst (N := 2) rfl ?_); refine box_event ?hg (N := 2) ?hd (cs := #[.int .i64 0, .string (⟨#[]⟩ : ByteArray), .string (⟨#[]⟩ : ByteArray), .string (⟨#[]⟩ : ByteArray), .int .i64 0, .int .i64 0]) (t := 37) ?hr ?_; (case hd => rfl); (case hg => rfl); (case hr => first | (go_simp; done) | (go_simp; rfl)); intro gb247 hg w14 hbox hb; have n0_ := Aside0.mk (blk_below (g := gb246) (o := .cells #[.int .u8 a0_0, .int .u8 a0_1, .int .u8 a0_2, .int .u8 a0_3, .int .u8 a0_4] 40 (0, 0)) zb10 hb); have n1_ := Aside0.mk (below_step zb9 hb); have n2_ := Aside0.mk (hbox); have n3_ := Aside0.mk ((by rw [hg]; exact (below_size zb9) : w.heap.size ≤ gb247)); have n4_ := Aside0.mk ((by rw [hg]; exact (below_size zb9) : w.heap.size ≤ gb247)); have n5_ := Aside0.mk ((by rw [hg]; exact Nat.ne_of_lt (blk_lt (g := gb246) (o := .cells #[.int .u8 a0_0, .int .u8 a0_1, .int .u8 a0_2, .int .u8 a0_3, .int .u8 a0_4] 40 (0, 0)) zb10) : gb246 ≠ gb247)); have n6_ := Aside0.mk ((by rw [hg]; exact Nat.ne_of_gt (blk_lt (g := gb246) (o := .cells #[.int .u8 a0_0, .int .u8 a0_1, .int .u8 a0_2, .int .u8 a0_3, .int .u8 a0_4] 40 (0, 0)) zb10) : gb247 ≠ gb246)); clear BK246; clear HB; have BK246 := n0_; have HB := n1_; have BK247 := n2_; have GW247 := n3_; have GE247 := n4_; have NB246_247 := n5_; have NB247_246 := n6_; clear n0_ n1_ n2_ n3_ n4_ n5_ n6_; clear hb hbox hg))
         have n0_ := Aside0.mk (blk_drew BK246.out)
         have n1_ := Aside0.mk (blk_drew BK247.out)
         have n2_ := Aside0.mk (below_drew1 HB.out)
         clear BK246
         clear BK247
         clear HB
         have BK246 := n0_
         have BK247 := n1_
         have HB := n2_
         clear n0_ n1_ n2_
         refine start_ (n := 35) (S := fun w' => w'.cell? ⟨gb246, 0, none⟩ = some (.int .u8 a0_0) ∧ w'.cell? ⟨gb246, 1, none⟩ = some (.int .u8 a0_1) ∧ w'.cell? ⟨gb246, 2, none⟩ = some (.int .u8 a0_2) ∧ w'.cell? ⟨gb246, 3, none⟩ = some (.int .u8 a0_3) ∧ w'.cell? ⟨gb246, 4, none⟩ = some (.int .u8 a0_4)) (ds := []) #[false, false, false, false, false, false, false, false, false, false, false, false, false, false, false, false, false, false, false, false, false, false, false, false, false, false, false, false, false, false, false, false, false, false, false] zb2 rfl rfl ⟨(blk_cell BK246.out 0).trans rfl, (blk_cell BK246.out 1).trans rfl, (blk_cell BK246.out 2).trans rfl, (blk_cell BK246.out 3).trans rfl, (blk_cell BK246.out 4).trans rfl⟩ (fun hHeld => ?_); refine with_tabW broadsheetlaw01_act.tab1 broadsheetlaw01_act.bits1 (fun HT_ HW_ => ?_)
         generalize w14.drew = w15 at BK246 BK247 HB hHeld ⊢
         refine pure_ (i := 0) (N := some 3) (v := ?_) (a' := ?_) #[true, false, false, false, false, false, false, false, false, false, false, false, false, false, false, false, false, false, false, false, false, false, false, false, false, false, false, false, false, false, false, false, false, false, false] rfl rfl (any_of HT_.out zb2) (fun _ _ _ h => h) (Or.inl ⟨by rfl, ?_⟩) ?_ ?_
         rotate_left
         ·intro w'
          go_simp
          first | with_reducible rfl | (rw [act_cut] <;> first | with_reducible rfl | rfl | exact of_decide_eq_true zb3 | exact of_eq_true zb3 | assumption) | (rw [act_cut2] <;> first | with_reducible rfl | rfl | exact of_decide_eq_true zb3 | exact of_eq_true zb3 | assumption) | (rw [if_neg zb0])
         rotate_left
         ·simp only [Act.put, List.setIfInBounds_toArray, List.set_cons_zero, List.set_cons_succ, i64_w, i32_w]
          rfl
         refine pure_ (i := 3) (N := some 6) (v := ?_) (a' := ?_) #[true, false, false, true, false, false, false, false, false, false, false, false, false, false, false, false, false, false, false, false, false, false, false, false, false, false, false, false, false, false, false, false, false, false, false] rfl rfl (any_of HT_.out zb2) (fun _ _ _ h => h) (Or.inl ⟨by rfl, ?_⟩) ?_ ?_
         rotate_left
         ·intro w'
          go_simp
          first | with_reducible rfl | (rw [act_cut] <;> first | with_reducible rfl | rfl | exact of_decide_eq_true zb3 | exact of_eq_true zb3 | assumption) | (rw [act_cut2] <;> first | with_reducible rfl | rfl | exact of_decide_eq_true zb3 | exact of_eq_true zb3 | assumption) | (rw [if_neg zb0])
         rotate_left
         ·simp only [Act.put, List.setIfInBounds_toArray, List.set_cons_zero, List.set_cons_succ, i64_w, i32_w]
          rfl
         refine pure_ (i := 6) (N := some 9) (v := ?_) (a' := ?_) #[true, false, false, true, false, false, true, false, false, false, false, false, false, false, false, false, false, false, false, false, false, false, false, false, false, false, false, false, false, false, false, false, false, false, false] rfl rfl (any_of HT_.out zb2) (fun _ _ _ h => h) (Or.inl ⟨by rfl, ?_⟩) ?_ ?_
         rotate_left
         ·intro w'
          go_simp
          first | with_reducible rfl | (rw [act_cut] <;> first | with_reducible rfl | rfl | exact of_decide_eq_true zb3 | exact of_eq_true zb3 | assumption) | (rw [act_cut2] <;> first | with_reducible rfl | rfl | exact of_decide_eq_true zb3 | exact of_eq_true zb3 | assumption) | (rw [if_neg zb0])
         rotate_left
         ·simp only [Act.put, List.setIfInBounds_toArray, List.set_cons_zero, List.set_cons_succ, i64_w, i32_w]
          rfl
         refine pure_ (i := 11) (N := some 14) (v := ?_) (a' := ?_) #[true, false, false, true, false, false, true, false, false, false, false, true, false, false, false, false, false, false, false, false, false, false, false, false, false, false, false, false, false, false, false, false, false, false, false] rfl rfl (any_of HT_.out zb2) (fun _ _ _ h => h) (Or.inl ⟨by rfl, ?_⟩) ?_ ?_
         rotate_left
         ·intro w'
          go_simp
          first | with_reducible rfl | (rw [act_cut] <;> first | with_reducible rfl | rfl | exact of_decide_eq_true zb3 | exact of_eq_true zb3 | assumption) | (rw [act_cut2] <;> first | with_reducible rfl | rfl | exact of_decide_eq_true zb3 | exact of_eq_true zb3 | assumption) | (rw [if_neg zb0])
         rotate_left
         ·simp only [Act.put, List.setIfInBounds_toArray, List.set_cons_zero, List.set_cons_succ, i64_w, i32_w]
          rfl
         refine pure_ (i := 14) (N := some 17) (v := ?_) (a' := ?_) #[true, false, false, true, false, false, true, false, false, false, false, true, false, false, true, false, false, false, false, false, false, false, false, false, false, false, false, false, false, false, false, false, false, false, false] rfl rfl (any_of HT_.out zb2) (fun _ _ _ h => h) (Or.inl ⟨by rfl, ?_⟩) ?_ ?_
         rotate_left
         ·intro w'
          go_simp
          first | with_reducible rfl | (rw [act_cut] <;> first | with_reducible rfl | rfl | exact of_decide_eq_true zb3 | exact of_eq_true zb3 | assumption) | (rw [act_cut2] <;> first | with_reducible rfl | rfl | exact of_decide_eq_true zb3 | exact of_eq_true zb3 | assumption) | (rw [if_neg zb0])
         rotate_left
         ·simp only [Act.put, List.setIfInBounds_toArray, List.set_cons_zero, List.set_cons_succ, i64_w, i32_w]
          rfl
         refine pure_ (i := 19) (N := some 22) (v := ?_) (a' := ?_) #[true, false, false, true, false, false, true, false, false, false, false, true, false, false, true, false, false, false, false, true, false, false, false, false, false, false, false, false, false, false, false, false, false, false, false] rfl rfl (any_of HT_.out zb2) (fun _ _ _ h => h) (Or.inl ⟨by rfl, ?_⟩) ?_ ?_
         rotate_left
         ·intro w'
          go_simp
          first | with_reducible rfl | (rw [act_cut] <;> first | with_reducible rfl | rfl | exact of_decide_eq_true zb3 | exact of_eq_true zb3 | assumption) | (rw [act_cut2] <;> first | with_reducible rfl | rfl | exact of_decide_eq_true zb3 | exact of_eq_true zb3 | assumption) | (rw [if_neg zb0])
         rotate_left
         ·simp only [Act.put, List.setIfInBounds_toArray, List.set_cons_zero, List.set_cons_succ, i64_w, i32_w]
          rfl
         refine pure_ (i := 23) (N := some 26) (v := ?_) (a' := ?_) #[true, false, false, true, false, false, true, false, false, false, false, true, false, false, true, false, false, false, false, true, false, false, false, true, false, false, false, false, false, false, false, false, false, false, false] rfl rfl (any_of HT_.out zb2) (fun _ _ _ h => h) (Or.inl ⟨by rfl, ?_⟩) ?_ ?_
         rotate_left
         ·intro w'
          go_simp
          first | with_reducible rfl | (rw [act_cut] <;> first | with_reducible rfl | rfl | exact of_decide_eq_true zb3 | exact of_eq_true zb3 | assumption) | (rw [act_cut2] <;> first | with_reducible rfl | rfl | exact of_decide_eq_true zb3 | exact of_eq_true zb3 | assumption) | (rw [if_neg zb0])
         rotate_left
         ·simp only [Act.put, List.setIfInBounds_toArray, List.set_cons_zero, List.set_cons_succ, i64_w, i32_w]
          rfl
         refine pure_ (i := 28) (N := some 31) (v := ?_) (a' := ?_) #[true, false, false, true, false, false, true, false, false, false, false, true, false, false, true, false, false, false, false, true, false, false, false, true, false, false, false, false, true, false, false, false, false, false, false] rfl rfl (any_of HT_.out zb2) (fun _ _ _ h => h) (Or.inl ⟨by rfl, ?_⟩) ?_ ?_
         rotate_left
         ·intro w'
          go_simp
          first | with_reducible rfl | (rw [act_cut] <;> first | with_reducible rfl | rfl | exact of_decide_eq_true zb3 | exact of_eq_true zb3 | assumption) | (rw [act_cut2] <;> first | with_reducible rfl | rfl | exact of_decide_eq_true zb3 | exact of_eq_true zb3 | assumption) | (rw [if_neg zb0])
         rotate_left
         ·simp only [Act.put, List.setIfInBounds_toArray, List.set_cons_zero, List.set_cons_succ, i64_w, i32_w]
          rfl
         refine take_ (i := 1) (N := some 4) (v := ?_) (a' := ?_) #[true, true, false, true, false, false, true, false, false, false, false, true, false, false, true, false, false, false, false, true, false, false, false, true, false, false, false, false, true, false, false, false, false, false, false] rfl rfl (take_ofW HT_.out HW_.out zb2) (fun _ _ _ h => h) (Or.inl ⟨by rfl, ?_⟩) hHeld ?_ ?_
         rotate_left
         ·rintro w' ⟨s0, s1, s2, s3, s4⟩
          go_simp
          first | with_reducible rfl | (rw [act_cut] <;> first | with_reducible rfl | rfl | exact of_decide_eq_true zb3 | exact of_eq_true zb3 | assumption) | (rw [act_cut2] <;> first | with_reducible rfl | rfl | exact of_decide_eq_true zb3 | exact of_eq_true zb3 | assumption) | (rw [if_neg zb0])
         rotate_left
         ·simp only [Act.put, List.setIfInBounds_toArray, List.set_cons_zero, List.set_cons_succ, i64_w, i32_w]
          rfl
         refine pure_ (i := 2) (N := some 5) (v := ?_) (a' := ?_) #[true, true, true, true, false, false, true, false, false, false, false, true, false, false, true, false, false, false, false, true, false, false, false, true, false, false, false, false, true, false, false, false, false, false, false] rfl rfl (any_of HT_.out zb2) (fun _ _ _ h => h) (Or.inl ⟨by rfl, ?_⟩) ?_ ?_
         rotate_left
         ·intro w'
          go_simp
          first | with_reducible rfl | (rw [act_cut] <;> first | with_reducible rfl | rfl | exact of_decide_eq_true zb3 | exact of_eq_true zb3 | assumption) | (rw [act_cut2] <;> first | with_reducible rfl | rfl | exact of_decide_eq_true zb3 | exact of_eq_true zb3 | assumption) | (rw [if_neg zb0])
         rotate_left
         ·simp only [Act.put, List.setIfInBounds_toArray, List.set_cons_zero, List.set_cons_succ, i64_w, i32_w]
          rfl
         refine take_ (i := 4) (N := some 7) (v := ?_) (a' := ?_) #[true, true, true, true, true, false, true, false, false, false, false, true, false, false, true, false, false, false, false, true, false, false, false, true, false, false, false, false, true, false, false, false, false, false, false] rfl rfl (take_ofW HT_.out HW_.out zb2) (fun _ _ _ h => h) (Or.inl ⟨by rfl, ?_⟩) hHeld ?_ ?_
         rotate_left
         ·rintro w' ⟨s0, s1, s2, s3, s4⟩
          go_simp
          first | with_reducible rfl | (rw [act_cut] <;> first | with_reducible rfl | rfl | exact of_decide_eq_true zb3 | exact of_eq_true zb3 | assumption) | (rw [act_cut2] <;> first | with_reducible rfl | rfl | exact of_decide_eq_true zb3 | exact of_eq_true zb3 | assumption) | (rw [if_neg zb0])
         rotate_left
         ·simp only [Act.put, List.setIfInBounds_toArray, List.set_cons_zero, List.set_cons_succ, i64_w, i32_w]
          rfl
         refine pure_ (i := 5) (N := some 8) (v := ?_) (a' := ?_) #[true, true, true, true, true, true, true, false, false, false, false, true, false, false, true, false, false, false, false, true, false, false, false, true, false, false, false, false, true, false, false, false, false, false, false] rfl rfl (any_of HT_.out zb2) (fun _ _ _ h => h) (Or.inl ⟨by rfl, ?_⟩) ?_ ?_
         rotate_left
         ·intro w'
          go_simp
          first | with_reducible rfl | (rw [act_cut] <;> first | with_reducible rfl | rfl | exact of_decide_eq_true zb3 | exact of_eq_true zb3 | assumption) | (rw [act_cut2] <;> first | with_reducible rfl | rfl | exact of_decide_eq_true zb3 | exact of_eq_true zb3 | assumption) | (rw [if_neg zb0])
         rotate_left
         ·simp only [Act.put, List.setIfInBounds_toArray, List.set_cons_zero, List.set_cons_succ, i64_w, i32_w]
          rfl
         refine take_ (i := 7) (N := some 10) (v := ?_) (a' := ?_) #[true, true, true, true, true, true, true, true, false, false, false, true, false, false, true, false, false, false, false, true, false, false, false, true, false, false, false, false, true, false, false, false, false, false, false] rfl rfl (take_ofW HT_.out HW_.out zb2) (fun _ _ _ h => h) (Or.inl ⟨by rfl, ?_⟩) hHeld ?_ ?_
         rotate_left
         ·rintro w' ⟨s0, s1, s2, s3, s4⟩
          go_simp
          first | with_reducible rfl | (rw [act_cut] <;> first | with_reducible rfl | rfl | exact of_decide_eq_true zb3 | exact of_eq_true zb3 | assumption) | (rw [act_cut2] <;> first | with_reducible rfl | rfl | exact of_decide_eq_true zb3 | exact of_eq_true zb3 | assumption) | (rw [if_neg zb0])
         rotate_left
         ·simp only [Act.put, List.setIfInBounds_toArray, List.set_cons_zero, List.set_cons_succ, i64_w, i32_w]
          rfl
         refine pure_ (i := 8) (N := some 11) (v := ?_) (a' := ?_) #[true, true, true, true, true, true, true, true, true, false, false, true, false, false, true, false, false, false, false, true, false, false, false, true, false, false, false, false, true, false, false, false, false, false, false] rfl rfl (any_of HT_.out zb2) (fun _ _ _ h => h) (Or.inl ⟨by rfl, ?_⟩) ?_ ?_
         rotate_left
         ·intro w'
          go_simp
          first | with_reducible rfl | (rw [act_cut] <;> first | with_reducible rfl | rfl | exact of_decide_eq_true zb3 | exact of_eq_true zb3 | assumption) | (rw [act_cut2] <;> first | with_reducible rfl | rfl | exact of_decide_eq_true zb3 | exact of_eq_true zb3 | assumption) | (rw [if_neg zb0])
         rotate_left
         ·simp only [Act.put, List.setIfInBounds_toArray, List.set_cons_zero, List.set_cons_succ, i64_w, i32_w]
          rfl
         refine pure_ (i := 9) (N := some 12) (v := ?_) (a' := ?_) #[true, true, true, true, true, true, true, true, true, true, false, true, false, false, true, false, false, false, false, true, false, false, false, true, false, false, false, false, true, false, false, false, false, false, false] rfl rfl (any_of HT_.out zb2) (fun _ _ _ h => h) (Or.inl ⟨by rfl, ?_⟩) ?_ ?_
         rotate_left
         ·intro w'
          go_simp
          first | with_reducible rfl | (rw [act_cut] <;> first | with_reducible rfl | rfl | exact of_decide_eq_true zb3 | exact of_eq_true zb3 | assumption) | (rw [act_cut2] <;> first | with_reducible rfl | rfl | exact of_decide_eq_true zb3 | exact of_eq_true zb3 | assumption) | (rw [if_neg zb0])
         rotate_left
         ·simp only [Act.put, List.setIfInBounds_toArray, List.set_cons_zero, List.set_cons_succ, i64_w, i32_w]
          rfl
         refine pure_ (i := 10) (N := some 13) (v := ?_) (a' := ?_) #[true, true, true, true, true, true, true, true, true, true, true, true, false, false, true, false, false, false, false, true, false, false, false, true, false, false, false, false, true, false, false, false, false, false, false] rfl rfl (any_of HT_.out zb2) (fun _ _ _ h => h) (Or.inl ⟨by rfl, ?_⟩) ?_ ?_
         rotate_left
         ·intro w'
          go_simp
          first | with_reducible rfl | (rw [act_cut] <;> first | with_reducible rfl | rfl | exact of_decide_eq_true zb3 | exact of_eq_true zb3 | assumption) | (rw [act_cut2] <;> first | with_reducible rfl | rfl | exact of_decide_eq_true zb3 | exact of_eq_true zb3 | assumption) | (rw [if_neg zb0])
         rotate_left
         ·simp only [Act.put, List.setIfInBounds_toArray, List.set_cons_zero, List.set_cons_succ, i64_w, i32_w]
          rfl
         refine take_ (i := 12) (N := some 15) (v := ?_) (a' := ?_) #[true, true, true, true, true, true, true, true, true, true, true, true, true, false, true, false, false, false, false, true, false, false, false, true, false, false, false, false, true, false, false, false, false, false, false] rfl rfl (take_ofW HT_.out HW_.out zb2) (fun _ _ _ h => h) (Or.inl ⟨by rfl, ?_⟩) hHeld ?_ ?_
         rotate_left
         ·rintro w' ⟨s0, s1, s2, s3, s4⟩
          go_simp
          first | with_reducible rfl | (rw [act_cut] <;> first | with_reducible rfl | rfl | exact of_decide_eq_true zb3 | exact of_eq_true zb3 | assumption) | (rw [act_cut2] <;> first | with_reducible rfl | rfl | exact of_decide_eq_true zb3 | exact of_eq_true zb3 | assumption) | (rw [if_neg zb0])
         rotate_left
         ·simp only [Act.put, List.setIfInBounds_toArray, List.set_cons_zero, List.set_cons_succ, i64_w, i32_w]
          rfl
         refine pure_ (i := 13) (N := some 16) (v := ?_) (a' := ?_) #[true, true, true, true, true, true, true, true, true, true, true, true, true, true, true, false, false, false, false, true, false, false, false, true, false, false, false, false, true, false, false, false, false, false, false] rfl rfl (any_of HT_.out zb2) (fun _ _ _ h => h) (Or.inl ⟨by rfl, ?_⟩) ?_ ?_
         rotate_left
         ·intro w'
          go_simp
          first | with_reducible rfl | (rw [act_cut] <;> first | with_reducible rfl | rfl | exact of_decide_eq_true zb3 | exact of_eq_true zb3 | assumption) | (rw [act_cut2] <;> first | with_reducible rfl | rfl | exact of_decide_eq_true zb3 | exact of_eq_true zb3 | assumption) | (rw [if_neg zb0])
         rotate_left
         ·simp only [Act.put, List.setIfInBounds_toArray, List.set_cons_zero, List.set_cons_succ, i64_w, i32_w]
          rfl
         refine take_ (i := 15) (N := some 18) (v := ?_) (a' := ?_) #[true, true, true, true, true, true, true, true, true, true, true, true, true, true, true, true, false, false, false, true, false, false, false, true, false, false, false, false, true, false, false, false, false, false, false] rfl rfl (take_ofW HT_.out HW_.out zb2) (fun _ _ _ h => h) (Or.inl ⟨by rfl, ?_⟩) hHeld ?_ ?_
         rotate_left
         ·rintro w' ⟨s0, s1, s2, s3, s4⟩
          go_simp
          first | with_reducible rfl | (rw [act_cut] <;> first | with_reducible rfl | rfl | exact of_decide_eq_true zb3 | exact of_eq_true zb3 | assumption) | (rw [act_cut2] <;> first | with_reducible rfl | rfl | exact of_decide_eq_true zb3 | exact of_eq_true zb3 | assumption) | (rw [if_neg zb0])
         rotate_left
         ·simp only [Act.put, List.setIfInBounds_toArray, List.set_cons_zero, List.set_cons_succ, i64_w, i32_w]
          rfl
         refine pure_ (i := 16) (N := some 19) (v := ?_) (a' := ?_) #[true, true, true, true, true, true, true, true, true, true, true, true, true, true, true, true, true, false, false, true, false, false, false, true, false, false, false, false, true, false, false, false, false, false, false] rfl rfl (any_of HT_.out zb2) (fun _ _ _ h => h) (Or.inl ⟨by rfl, ?_⟩) ?_ ?_
         rotate_left
         ·intro w'
          go_simp
          first | with_reducible rfl | (rw [act_cut] <;> first | with_reducible rfl | rfl | exact of_decide_eq_true zb3 | exact of_eq_true zb3 | assumption) | (rw [act_cut2] <;> first | with_reducible rfl | rfl | exact of_decide_eq_true zb3 | exact of_eq_true zb3 | assumption) | (rw [if_neg zb0])
         rotate_left
         ·simp only [Act.put, List.setIfInBounds_toArray, List.set_cons_zero, List.set_cons_succ, i64_w, i32_w]
          rfl
         refine pure_ (i := 17) (N := some 20) (v := ?_) (a' := ?_) #[true, true, true, true, true, true, true, true, true, true, true, true, true, true, true, true, true, true, false, true, false, false, false, true, false, false, false, false, true, false, false, false, false, false, false] rfl rfl (any_of HT_.out zb2) (fun _ _ _ h => h) (Or.inl ⟨by rfl, ?_⟩) ?_ ?_
         rotate_left
         ·intro w'
          go_simp
          first | with_reducible rfl | (rw [act_cut] <;> first | with_reducible rfl | rfl | exact of_decide_eq_true zb3 | exact of_eq_true zb3 | assumption) | (rw [act_cut2] <;> first | with_reducible rfl | rfl | exact of_decide_eq_true zb3 | exact of_eq_true zb3 | assumption) | (rw [if_neg zb0])
         rotate_left
         ·simp only [Act.put, List.setIfInBounds_toArray, List.set_cons_zero, List.set_cons_succ, i64_w, i32_w]
          rfl
         refine pure_ (i := 18) (N := some 21) (v := ?_) (a' := ?_) #[true, true, true, true, true, true, true, true, true, true, true, true, true, true, true, true, true, true, true, true, false, false, false, true, false, false, false, false, true, false, false, false, false, false, false] rfl rfl (any_of HT_.out zb2) (fun _ _ _ h => h) (Or.inl ⟨by rfl, ?_⟩) ?_ ?_
         rotate_left
         ·intro w'
          go_simp
          first | with_reducible rfl | (rw [act_cut] <;> first | with_reducible rfl | rfl | exact of_decide_eq_true zb3 | exact of_eq_true zb3 | assumption) | (rw [act_cut2] <;> first | with_reducible rfl | rfl | exact of_decide_eq_true zb3 | exact of_eq_true zb3 | assumption) | (rw [if_neg zb0])
         rotate_left
         ·simp only [Act.put, List.setIfInBounds_toArray, List.set_cons_zero, List.set_cons_succ, i64_w, i32_w]
          rfl
         refine take_ (i := 20) (N := some 23) (v := ?_) (a' := ?_) #[true, true, true, true, true, true, true, true, true, true, true, true, true, true, true, true, true, true, true, true, true, false, false, true, false, false, false, false, true, false, false, false, false, false, false] rfl rfl (take_ofW HT_.out HW_.out zb2) (fun _ _ _ h => h) (Or.inl ⟨by rfl, ?_⟩) hHeld ?_ ?_
         rotate_left
         ·rintro w' ⟨s0, s1, s2, s3, s4⟩
          go_simp
          first | with_reducible rfl | (rw [act_cut] <;> first | with_reducible rfl | rfl | exact of_decide_eq_true zb3 | exact of_eq_true zb3 | assumption) | (rw [act_cut2] <;> first | with_reducible rfl | rfl | exact of_decide_eq_true zb3 | exact of_eq_true zb3 | assumption) | (rw [if_neg zb0])
         rotate_left
         ·simp only [Act.put, List.setIfInBounds_toArray, List.set_cons_zero, List.set_cons_succ, i64_w, i32_w]
          rfl
         refine pure_ (i := 21) (N := some 24) (v := ?_) (a' := ?_) #[true, true, true, true, true, true, true, true, true, true, true, true, true, true, true, true, true, true, true, true, true, true, false, true, false, false, false, false, true, false, false, false, false, false, false] rfl rfl (any_of HT_.out zb2) (fun _ _ _ h => h) (Or.inl ⟨by rfl, ?_⟩) ?_ ?_
         rotate_left
         ·intro w'
          go_simp
          first | with_reducible rfl | (rw [act_cut] <;> first | with_reducible rfl | rfl | exact of_decide_eq_true zb3 | exact of_eq_true zb3 | assumption) | (rw [act_cut2] <;> first | with_reducible rfl | rfl | exact of_decide_eq_true zb3 | exact of_eq_true zb3 | assumption) | (rw [if_neg zb0])
         rotate_left
         ·simp only [Act.put, List.setIfInBounds_toArray, List.set_cons_zero, List.set_cons_succ, i64_w, i32_w]
          rfl
         refine pure_ (i := 22) (N := some 25) (v := ?_) (a' := ?_) #[true, true, true, true, true, true, true, true, true, true, true, true, true, true, true, true, true, true, true, true, true, true, true, true, false, false, false, false, true, false, false, false, false, false, false] rfl rfl (any_of HT_.out zb2) (fun _ _ _ h => h) (Or.inl ⟨by rfl, ?_⟩) ?_ ?_
         rotate_left
         ·intro w'
          go_simp
          first | with_reducible rfl | (rw [act_cut] <;> first | with_reducible rfl | rfl | exact of_decide_eq_true zb3 | exact of_eq_true zb3 | assumption) | (rw [act_cut2] <;> first | with_reducible rfl | rfl | exact of_decide_eq_true zb3 | exact of_eq_true zb3 | assumption) | (rw [if_neg zb0])
         rotate_left
         ·simp only [Act.put, List.setIfInBounds_toArray, List.set_cons_zero, List.set_cons_succ, i64_w, i32_w]
          rfl
         refine take_ (i := 24) (N := some 27) (v := ?_) (a' := ?_) #[true, true, true, true, true, true, true, true, true, true, true, true, true, true, true, true, true, true, true, true, true, true, true, true, true, false, false, false, true, false, false, false, false, false, false] rfl rfl (take_ofW HT_.out HW_.out zb2) (fun _ _ _ h => h) (Or.inl ⟨by rfl, ?_⟩) hHeld ?_ ?_
         rotate_left
         ·rintro w' ⟨s0, s1, s2, s3, s4⟩
          go_simp
          first | with_reducible rfl | (rw [act_cut] <;> first | with_reducible rfl | rfl | exact of_decide_eq_true zb3 | exact of_eq_true zb3 | assumption) | (rw [act_cut2] <;> first | with_reducible rfl | rfl | exact of_decide_eq_true zb3 | exact of_eq_true zb3 | assumption) | (rw [if_neg zb0])
         rotate_left
         ·simp only [Act.put, List.setIfInBounds_toArray, List.set_cons_zero, List.set_cons_succ, i64_w, i32_w]
          rfl
         refine pure_ (i := 25) (N := some 28) (v := ?_) (a' := ?_) #[true, true, true, true, true, true, true, true, true, true, true, true, true, true, true, true, true, true, true, true, true, true, true, true, true, true, false, false, true, false, false, false, false, false, false] rfl rfl (any_of HT_.out zb2) (fun _ _ _ h => h) (Or.inl ⟨by rfl, ?_⟩) ?_ ?_
         rotate_left
         ·intro w'
          go_simp
          first | with_reducible rfl | (rw [act_cut] <;> first | with_reducible rfl | rfl | exact of_decide_eq_true zb3 | exact of_eq_true zb3 | assumption) | (rw [act_cut2] <;> first | with_reducible rfl | rfl | exact of_decide_eq_true zb3 | exact of_eq_true zb3 | assumption) | (rw [if_neg zb0])
         rotate_left
         ·simp only [Act.put, List.setIfInBounds_toArray, List.set_cons_zero, List.set_cons_succ, i64_w, i32_w]
          rfl
         refine pure_ (i := 26) (N := some 29) (v := ?_) (a' := ?_) #[true, true, true, true, true, true, true, true, true, true, true, true, true, true, true, true, true, true, true, true, true, true, true, true, true, true, true, false, true, false, false, false, false, false, false] rfl rfl (any_of HT_.out zb2) (fun _ _ _ h => h) (Or.inl ⟨by rfl, ?_⟩) ?_ ?_
         rotate_left
         ·intro w'
          go_simp
          first | with_reducible rfl | (rw [act_cut] <;> first | with_reducible rfl | rfl | exact of_decide_eq_true zb3 | exact of_eq_true zb3 | assumption) | (rw [act_cut2] <;> first | with_reducible rfl | rfl | exact of_decide_eq_true zb3 | exact of_eq_true zb3 | assumption) | (rw [if_neg zb0])
         rotate_left
         ·simp only [Act.put, List.setIfInBounds_toArray, List.set_cons_zero, List.set_cons_succ, i64_w, i32_w]
          rfl
         refine pure_ (i := 27) (N := some 30) (v := ?_) (a' := ?_) #[true, true, true, true, true, true, true, true, true, true, true, true, true, true, true, true, true, true, true, true, true, true, true, true, true, true, true, true, true, false, false, false, false, false, false] rfl rfl (any_of HT_.out zb2) (fun _ _ _ h => h) (Or.inl ⟨by rfl, ?_⟩) ?_ ?_
         rotate_left
         ·intro w'
          go_simp
          first | with_reducible rfl | (rw [act_cut] <;> first | with_reducible rfl | rfl | exact of_decide_eq_true zb3 | exact of_eq_true zb3 | assumption) | (rw [act_cut2] <;> first | with_reducible rfl | rfl | exact of_decide_eq_true zb3 | exact of_eq_true zb3 | assumption) | (rw [if_neg zb0])
         rotate_left
         ·simp only [Act.put, List.setIfInBounds_toArray, List.set_cons_zero, List.set_cons_succ, i64_w, i32_w]
          rfl
         refine take_ (i := 29) (N := some 32) (v := ?_) (a' := ?_) #[true, true, true, true, true, true, true, true, true, true, true, true, true, true, true, true, true, true, true, true, true, true, true, true, true, true, true, true, true, true, false, false, false, false, false] rfl rfl (take_ofW HT_.out HW_.out zb2) (fun _ _ _ h => h) (Or.inl ⟨by rfl, ?_⟩) hHeld ?_ ?_
         rotate_left
         ·rintro w' ⟨s0, s1, s2, s3, s4⟩
          go_simp
          first | with_reducible rfl | (rw [act_cut] <;> first | with_reducible rfl | rfl | exact of_decide_eq_true zb3 | exact of_eq_true zb3 | assumption) | (rw [act_cut2] <;> first | with_reducible rfl | rfl | exact of_decide_eq_true zb3 | exact of_eq_true zb3 | assumption) | (rw [if_neg zb0])
         rotate_left
         ·simp only [Act.put, List.setIfInBounds_toArray, List.set_cons_zero, List.set_cons_succ, i64_w, i32_w]
          rfl
         refine pure_ (i := 30) (N := some 33) (v := ?_) (a' := ?_) #[true, true, true, true, true, true, true, true, true, true, true, true, true, true, true, true, true, true, true, true, true, true, true, true, true, true, true, true, true, true, true, false, false, false, false] rfl rfl (any_of HT_.out zb2) (fun _ _ _ h => h) (Or.inl ⟨by rfl, ?_⟩) ?_ ?_
         rotate_left
         ·intro w'
          go_simp
          first | with_reducible rfl | (rw [act_cut] <;> first | with_reducible rfl | rfl | exact of_decide_eq_true zb3 | exact of_eq_true zb3 | assumption) | (rw [act_cut2] <;> first | with_reducible rfl | rfl | exact of_decide_eq_true zb3 | exact of_eq_true zb3 | assumption) | (rw [if_neg zb0])
         rotate_left
         ·simp only [Act.put, List.setIfInBounds_toArray, List.set_cons_zero, List.set_cons_succ, i64_w, i32_w]
          rfl
         refine pure_ (i := 31) (N := some 34) (v := ?_) (a' := ?_) #[true, true, true, true, true, true, true, true, true, true, true, true, true, true, true, true, true, true, true, true, true, true, true, true, true, true, true, true, true, true, true, true, false, false, false] rfl rfl (any_of HT_.out zb2) (fun _ _ _ h => h) (Or.inl ⟨by rfl, ?_⟩) ?_ ?_
         rotate_left
         ·intro w'
          go_simp
          first | with_reducible rfl | (rw [act_cut] <;> first | with_reducible rfl | rfl | exact of_decide_eq_true zb3 | exact of_eq_true zb3 | assumption) | (rw [act_cut2] <;> first | with_reducible rfl | rfl | exact of_decide_eq_true zb3 | exact of_eq_true zb3 | assumption) | (rw [if_neg zb0])
         rotate_left
         ·simp only [Act.put, List.setIfInBounds_toArray, List.set_cons_zero, List.set_cons_succ, i64_w, i32_w]
          rfl
         refine pure_ (i := 32) (N := some 35) (v := ?_) (a' := ?_) #[true, true, true, true, true, true, true, true, true, true, true, true, true, true, true, true, true, true, true, true, true, true, true, true, true, true, true, true, true, true, true, true, true, false, false] rfl rfl (any_of HT_.out zb2) (fun _ _ _ h => h) (Or.inl ⟨by rfl, ?_⟩) ?_ ?_
         rotate_left
         ·intro w'
          go_simp
          first | with_reducible rfl | (rw [act_cut] <;> first | with_reducible rfl | rfl | exact of_decide_eq_true zb3 | exact of_eq_true zb3 | assumption) | (rw [act_cut2] <;> first | with_reducible rfl | rfl | exact of_decide_eq_true zb3 | exact of_eq_true zb3 | assumption) | (rw [if_neg zb0])
         rotate_left
         ·simp only [Act.put, List.setIfInBounds_toArray, List.set_cons_zero, List.set_cons_succ, i64_w, i32_w]
          rfl
         refine pure_ (i := 33) (N := some 36) (v := ?_) (a' := ?_) #[true, true, true, true, true, true, true, true, true, true, true, true, true, true, true, true, true, true, true, true, true, true, true, true, true, true, true, true, true, true, true, true, true, true, false] rfl rfl (any_of HT_.out zb2) (fun _ _ _ h => h) (Or.inl ⟨by rfl, ?_⟩) ?_ ?_
         rotate_left
         ·intro w'
          go_simp
          first | with_reducible rfl | (rw [act_cut] <;> first | with_reducible rfl | rfl | exact of_decide_eq_true zb3 | exact of_eq_true zb3 | assumption) | (rw [act_cut2] <;> first | with_reducible rfl | rfl | exact of_decide_eq_true zb3 | exact of_eq_true zb3 | assumption) | (rw [if_neg zb0])
         rotate_left
         ·simp only [Act.put, List.setIfInBounds_toArray, List.set_cons_zero, List.set_cons_succ, i64_w, i32_w]
          rfl
         refine one_ (i := 34) (N := none) #[true, true, true, true, true, true, true, true, true, true, true, true, true, true, true, true, true, true, true, true, true, true, true, true, true, true, true, true, true, true, true, true, true, true, true] rfl rfl (one_of HT_.out zb2) zb8 (fun K hK => ?_)
         have hs16 : w15.cell? ⟨gb247, 0, none⟩ = some (.int .i64 0) := (blk_cell BK247.out 0).trans rfl
         have hfs16 := blk_frozen BK247.out 0
         have hns16_0 := NB246_247.out
         have hms16_0 := NB247_246.out
         have hs17 : w15.cell? ⟨gb247, 1, none⟩ = some (.string (⟨#[]⟩ : ByteArray)) := (blk_cell BK247.out 1).trans rfl
         have hfs17 := blk_frozen BK247.out 1
         have hns17_0 := NB246_247.out
         have hms17_0 := NB247_246.out
         have hs18 : w15.cell? ⟨gb247, 2, none⟩ = some (.string (⟨#[]⟩ : ByteArray)) := (blk_cell BK247.out 2).trans rfl
         have hfs18 := blk_frozen BK247.out 2
         have hns18_0 := NB246_247.out
         have hms18_0 := NB247_246.out
         have hs19 : w15.cell? ⟨gb247, 3, none⟩ = some (.string (⟨#[]⟩ : ByteArray)) := (blk_cell BK247.out 3).trans rfl
         have hfs19 := blk_frozen BK247.out 3
         have hns19_0 := NB246_247.out
         have hms19_0 := NB247_246.out
         have hs20 : w15.cell? ⟨gb247, 4, none⟩ = some (.int .i64 0) := (blk_cell BK247.out 4).trans rfl
         have hfs20 := blk_frozen BK247.out 4
         have hns20_0 := NB246_247.out
         have hms20_0 := NB247_246.out
         have hs21 : w15.cell? ⟨gb247, 5, none⟩ = some (.int .i64 0) := (blk_cell BK247.out 5).trans rfl
         have hfs21 := blk_frozen BK247.out 5
         have hns21_0 := NB246_247.out
         have hms21_0 := NB247_246.out
         refine skip_ (w1 := ?_) (by rfl) rfl ?_ ?_
         rotate_left
         ·go_simp
          rfl
         refine hK.out _ _ ⟨((cell_far (p := ⟨gb247, _, none⟩) NB246_247.out _).trans (((cell_far (p := ⟨gb247, _, none⟩) NB246_247.out _).trans (((cell_far (p := ⟨gb247, _, none⟩) NB246_247.out _).trans (((cell_far (p := ⟨gb247, _, none⟩) NB246_247.out _).trans (((cell_far (p := ⟨gb247, _, none⟩) NB246_247.out _).trans (((cell_far (p := ⟨gb247, _, none⟩) NB246_247.out _).trans (hHeld.1)))))))))))), ((cell_far (p := ⟨gb247, _, none⟩) NB246_247.out _).trans (((cell_far (p := ⟨gb247, _, none⟩) NB246_247.out _).trans (((cell_far (p := ⟨gb247, _, none⟩) NB246_247.out _).trans (((cell_far (p := ⟨gb247, _, none⟩) NB246_247.out _).trans (((cell_far (p := ⟨gb247, _, none⟩) NB246_247.out _).trans (((cell_far (p := ⟨gb247, _, none⟩) NB246_247.out _).trans (hHeld.2.1)))))))))))), ((cell_far (p := ⟨gb247, _, none⟩) NB246_247.out _).trans (((cell_far (p := ⟨gb247, _, none⟩) NB246_247.out _).trans (((cell_far (p := ⟨gb247, _, none⟩) NB246_247.out _).trans (((cell_far (p := ⟨gb247, _, none⟩) NB246_247.out _).trans (((cell_far (p := ⟨gb247, _, none⟩) NB246_247.out _).trans (((cell_far (p := ⟨gb247, _, none⟩) NB246_247.out _).trans (hHeld.2.2.1)))))))))))), ((cell_far (p := ⟨gb247, _, none⟩) NB246_247.out _).trans (((cell_far (p := ⟨gb247, _, none⟩) NB246_247.out _).trans (((cell_far (p := ⟨gb247, _, none⟩) NB246_247.out _).trans (((cell_far (p := ⟨gb247, _, none⟩) NB246_247.out _).trans (((cell_far (p := ⟨gb247, _, none⟩) NB246_247.out _).trans (((cell_far (p := ⟨gb247, _, none⟩) NB246_247.out _).trans (hHeld.2.2.2.1)))))))))))), ((cell_far (p := ⟨gb247, _, none⟩) NB246_247.out _).trans (((cell_far (p := ⟨gb247, _, none⟩) NB246_247.out _).trans (((cell_far (p := ⟨gb247, _, none⟩) NB246_247.out _).trans (((cell_far (p := ⟨gb247, _, none⟩) NB246_247.out _).trans (((cell_far (p := ⟨gb247, _, none⟩) NB246_247.out _).trans (((cell_far (p := ⟨gb247, _, none⟩) NB246_247.out _).trans (hHeld.2.2.2.2))))))))))))⟩ (fun hHeld => ?_)
         clear hK K
         refine done_ (done_of HT_.out zb2) ?_
         try go_wp2
         refine bodyPost_ret (results_cell_row rfl _ _ gb247 37 #[.int .i64 (wrap64 (a0_0)), .string ((⟨#[97, 98, 99]⟩ : ByteArray).extract ((ji2) : Int).toNat ((((ji2) + 1) % 256) : Int).toNat), .string ((⟨#[97, 98, 99]⟩ : ByteArray).extract ((ji6) : Int).toNat ((((ji6) + 1) % 256) : Int).toNat), .string ((⟨#[117, 118, 119, 120, 121, 122]⟩ : ByteArray).extract 0 ((ji10) : Int).toNat), .int .i64 (wrap64 ((Int.tmod (wrap64 (a0_3)) 9) - 1)), .int .i64 (wrap64 ((Int.tmod (wrap64 (a0_4)) 9) - 1))] (0, 0) _ rfl (by (with_reducible repeat (first | refine blk_drewN ?_ _ | refine blk_drew ?_ | refine blk_alloc ?_ _)); refine blk_put (cs := #[.int .i64 (wrap64 (a0_0)), .string ((⟨#[97, 98, 99]⟩ : ByteArray).extract ((ji2) : Int).toNat ((((ji2) + 1) % 256) : Int).toNat), .string ((⟨#[97, 98, 99]⟩ : ByteArray).extract ((ji6) : Int).toNat ((((ji6) + 1) % 256) : Int).toNat), .string ((⟨#[117, 118, 119, 120, 121, 122]⟩ : ByteArray).extract 0 ((ji10) : Int).toNat), .int .i64 (wrap64 ((Int.tmod (wrap64 (a0_3)) 9) - 1)), .int .i64 0]) ?_ 5 _ rfl; (with_reducible repeat (first | refine blk_drewN ?_ _ | refine blk_drew ?_ | refine blk_alloc ?_ _)); refine blk_put (cs := #[.int .i64 (wrap64 (a0_0)), .string ((⟨#[97, 98, 99]⟩ : ByteArray).extract ((ji2) : Int).toNat ((((ji2) + 1) % 256) : Int).toNat), .string ((⟨#[97, 98, 99]⟩ : ByteArray).extract ((ji6) : Int).toNat ((((ji6) + 1) % 256) : Int).toNat), .string ((⟨#[117, 118, 119, 120, 121, 122]⟩ : ByteArray).extract 0 ((ji10) : Int).toNat), .int .i64 0, .int .i64 0]) ?_ 4 _ rfl; (with_reducible repeat (first | refine blk_drewN ?_ _ | refine blk_drew ?_ | refine blk_alloc ?_ _)); refine blk_put (cs := #[.int .i64 (wrap64 (a0_0)), .string ((⟨#[97, 98, 99]⟩ : ByteArray).extract ((ji2) : Int).toNat ((((ji2) + 1) % 256) : Int).toNat), .string ((⟨#[97, 98, 99]⟩ : ByteArray).extract ((ji6) : Int).toNat ((((ji6) + 1) % 256) : Int).toNat), .string (⟨#[]⟩ : ByteArray), .int .i64 0, .int .i64 0]) ?_ 3 _ rfl; (with_reducible repeat (first | refine blk_drewN ?_ _ | refine blk_drew ?_ | refine blk_alloc ?_ _)); refine blk_put (cs := #[.int .i64 (wrap64 (a0_0)), .string ((⟨#[97, 98, 99]⟩ : ByteArray).extract ((ji2) : Int).toNat ((((ji2) + 1) % 256) : Int).toNat), .string (⟨#[]⟩ : ByteArray), .string (⟨#[]⟩ : ByteArray), .int .i64 0, .int .i64 0]) ?_ 2 _ rfl; (with_reducible repeat (first | refine blk_drewN ?_ _ | refine blk_drew ?_ | refine blk_alloc ?_ _)); refine blk_put (cs := #[.int .i64 (wrap64 (a0_0)), .string (⟨#[]⟩ : ByteArray), .string (⟨#[]⟩ : ByteArray), .string (⟨#[]⟩ : ByteArray), .int .i64 0, .int .i64 0]) ?_ 1 _ rfl; (with_reducible repeat (first | refine blk_drewN ?_ _ | refine blk_drew ?_ | refine blk_alloc ?_ _)); refine blk_put (cs := #[.int .i64 0, .string (⟨#[]⟩ : ByteArray), .string (⟨#[]⟩ : ByteArray), .string (⟨#[]⟩ : ByteArray), .int .i64 0, .int .i64 0]) ?_ 0 _ rfl; (with_reducible repeat (first | refine blk_drewN ?_ _ | refine blk_drew ?_ | refine blk_alloc ?_ _)); exact BK247.out) Try.underlying37 rfl zb2) rfl ?_
         exact ⟨by first | rfl | (simp [errW_none, errW_some, bne_nil_] <;> rfl) | (simp only [← hji2, ← hji6, ← hji10]; first | rfl | (simp [errW_none, errW_some, bne_nil_] <;> rfl)) | (simp [*, errW_none, errW_some] <;> rfl), (by repeat (first | (with_reducible first | exact HB.out | apply below_alloc | apply pw_below_drewN | apply below_drew1 | refine below_set ?_ GE246.out | refine below_set ?_ GE247.out) | exact HB.out))⟩
        ·rw [if_neg c12] at H
         exact absurd H (by simp)
       ·rw [if_neg c11] at H
        exact absurd H (by simp)
      ·rw [if_neg c9] at H
       exact absurd H (by simp)
     ·rw [if_neg c8] at H
      exact absurd H (by simp)
    ·rw [if_neg c7] at H
     exact absurd H (by simp)
   ·rw [if_neg c5] at H
    exact absurd H (by simp)
  ·rw [if_neg c4] at H
   exact absurd H (by simp)
 ·rw [if_neg c3] at H
  exact absurd H (by simp)
end Go.Proofs.Ytblmjnknagpacaa.P
/- PlSe -/
namespace Go.Proofs.Ytblmjnknagpacaa.Pl
open Go Go.RowKit Go.Maps Go.Proofs.YtblmjnknagpacaaW.PrintWords
set_option linter.unusedVariables false
set_option linter.unusedSimpArgs false
/-- The names that acts have. -/
def nameA (i : Nat) : ByteArray := abc.extract (i % 3) (i % 3 + 1)
def textA (i : Nat) : ByteArray := uvw.extract 0 (i % 7)
def numA (i : Nat) : Int := ((i % 9 : Nat) : Int) - 1
theorem bits_and : ∀ i : Fin 256, bits BinOp.and IntKind.i64 ((i.val : Nat) : Int) 15 = ((i.val % 16 : Nat) : Int) := by decide +kernel
theorem nameA_size (i : Nat) : (nameA i).size = 1 := by
  unfold nameA
  rw [ByteArray.size_extract]
  have : abc.size = 3 := rfl
  omega
theorem textA_size (i : Nat) : (textA i).size ≤ 6 := by
  unfold textA
  rw [ByteArray.size_extract]
  have : uvw.size = 6 := rfl
  omega
theorem numA_le (i : Nat) : numA i ≤ 7 := by unfold numA; omega
theorem wrap_small (x : Int) (h0 : -1000 ≤ x) (h1 : x ≤ 1000) : wrap64 x = x := by unfold wrap64; omega
theorem mod_facts (b : Nat) : (0 : Int) ≤ ((b % 3 : Nat) : Int) ∧ (((b % 3 : Nat) : Int) + 1) % 256 = ((b % 3 + 1 : Nat) : Int) ∧ ((b % 3 : Nat) : Int) ≤ ((b % 3 + 1 : Nat) : Int) ∧ ((b % 3 + 1 : Nat) : Int) ≤ 3 := by omega
theorem mod_facts7 (d : Nat) : (0 : Int) ≤ ((d % 7 : Nat) : Int) ∧ ((d % 7 : Nat) : Int) ≤ 6 := by omega
theorem num_wrap (d : Nat) : wrap64 (((d % 9 : Nat) : Int) - 1) = numA d := wrap_small _ zb6 zb6
theorem act_plain (a b c d e : Nat) (ha : a < 256) (hb : b < 256) (hc : c < 256) (hd : d < 256) (he : e < 256) :
    P.broadsheetlaw01_act.f (a : Int) (b : Int) (c : Int) (d : Int) (e : Int) = some ((a : Int), nameA b, nameA c, textA d, numA d, numA e) := by
  obtain ⟨f1, f2, f3, f4⟩ := mod_facts b
  obtain ⟨g1, g2, g3, g4⟩ := mod_facts c
  obtain ⟨k1, k2⟩ := mod_facts7 d
  have w1 : wrap64 (a : Int) = (a : Int) := wrap_small _ zb6 zb6
  have w2 : wrap64 (d : Int) = (d : Int) := wrap_small _ zb6 zb6
  have w3 : wrap64 (e : Int) = (e : Int) := wrap_small _ zb6 zb6
  unfold P.broadsheetlaw01_act.f
  rw [show Int.tmod (b : Int) 3 = ((b % 3 : Nat) : Int) from tmod_nat b 3, show Int.tmod (c : Int) 3 = ((c % 3 : Nat) : Int) from tmod_nat c 3, show Int.tmod (d : Int) 7 = ((d % 7 : Nat) : Int) from tmod_nat d 7, w1, w2, w3, show Int.tmod (d : Int) 9 = ((d % 9 : Nat) : Int) from tmod_nat d 9, show Int.tmod (e : Int) 9 = ((e % 9 : Nat) : Int) from tmod_nat e 9, f2, g2, num_wrap, num_wrap]
  rw [if_pos f1, if_pos f3, if_pos f4, if_pos g1, if_pos g3, if_pos g4, if_pos k1, if_pos k2]
  rfl
theorem act_calls (a b c d e : Nat) (ha : a < 256) (hb : b < 256) (hc : c < 256) (hd : d < 256) (he : e < 256) (w : World) :
    Calls Try.prog 13 #[.agg #[.int .u8 (a : Int), .int .u8 (b : Int), .int .u8 (c : Int), .int .u8 (d : Int), .int .u8 (e : Int)]] w fun x w' => x = .returned (.agg #[.int .i64 (a : Int), .string (nameA b), .string (nameA c), .string (textA d), .int .i64 (numA d), .int .i64 (numA e)]) ∧ Below w.heap.size w w' :=
  P.broadsheetlaw01_act.calls _ _ _ _ _ _ _ _ _ _ _ w (act_plain a b c d e ha hb hc hd he)
/-- The bytes of an act. -/
structure Bit where
  what : Nat
  a : Nat
  b : Nat
  n : Nat
  m : Nat
def Bit.ok (x : Bit) : Prop := x.what < 256 ∧ x.a < 256 ∧ x.b < 256 ∧ x.n < 256 ∧ x.m < 256
def Bit.cells (x : Bit) : List Value := [.int .u8 (x.what : Int), .int .u8 (x.a : Int), .int .u8 (x.b : Int), .int .u8 (x.n : Int), .int .u8 (x.m : Int)]
def bitM (m : Mach) (x : Bit) : Mach := actM m (x.what % 16) (nameA x.a).data.toList (nameA x.b).data.toList (textA x.n).data.toList (numA x.n) (numA x.m)
section
variable {w : World} {bp br : Nat} {m mr : Mach} {H : Nat → Prop} {C : Nat}
/-- What holds of both plates, act by act. -/
structure Both (C : Nat) (w : World) (bp br : Nat) (m mr : Mach) (H : Nat → Prop) : Prop where
  two : Two w bp br m mr H
  inv : Inv C m
  invr : Inv C mr
  tame : Tame m
  tamer : Tame mr
theorem bit_inv {m : Mach} (h : Inv C m) (x : Bit) : Inv (C + 2) (bitM m x) := actM_inv h _ _ _ _ _ _ (by have := numA_le x.n; omega)
theorem bit_tame {m : Mach} (h : Tame m) (x : Bit) : Tame (bitM m x) := h.act _ (by rw [← Lib.size_eq, nameA_size]; decide) (by rw [← Lib.size_eq, nameA_size]; decide) _ _
theorem bit_same (x : Bit) (hx : x.ok) (h : Both C w bp br m mr H) (hC : C ≤ 10000000) :
    Calls Try.prog 12 #[.pointer (some ⟨bp, 0, none⟩), .pointer (some ⟨br, 0, none⟩), .agg #[.int .i64 (x.what : Int), .string (nameA x.a), .string (nameA x.b), .string (textA x.n), .int .i64 (numA x.n), .int .i64 (numA x.m)]] w fun e w' => ∃ z, e = .returned (.bool z) ∧ Both (C + 2) w' bp br (bitM m x) (bitM mr x) (grow H w w') ∧ Tch H w w' := by
  have hs1 := nameA_size x.a
  have hs2 := nameA_size x.b
  have hs3 := textA_size x.n
  refine (same_calls (x.what : Int) (x.what % 16) (numA x.n) (numA x.m) (nameA x.a) (nameA x.b) (textA x.n) (bits_and ⟨x.what, hx.1⟩) zb6 h.two h.inv h.invr hC h.tame.short zb6 zb6 zb6).mono ?_
  rintro e w' ⟨z, he, h2, ht⟩
  exact ⟨z, he, ⟨h2, bit_inv h.inv x, bit_inv h.invr x, bit_tame h.tame x, bit_tame h.tamer x⟩, ht⟩
end
section
variable {w : World} {bp br : Nat} {m mr : Mach} {H : Nat → Prop} {C : Nat}
/-- Both plates, new. -/
theorem two_new {w w1 w2 : World} {bp br : Nat} {room : Int} (hp : Plate w1 bp (fresh room) (fun i => w.heap.size ≤ i ∧ i < w1.heap.size)) (t1 : Tch (fun _ => False) w w1) (hr : RPlate w2 br (fresh room) (fun i => w1.heap.size ≤ i ∧ i < w2.heap.size)) (b2 : Below w1.heap.size w1 w2) :
    Two w2 bp br (fresh room) (fresh room) (fun i => w.heap.size ≤ i ∧ i < w2.heap.size) := by
  have s1 := t1.size
  have s2 := b2.size
  exact ⟨_, _, hp.next (X := fun _ => False) (Tch.of_below b2) (fun _ _ _ h => h), hr, fun i h1 h2 => by omega, fun i h => by omega, fun i h => h.2⟩
theorem Tame.create {m : Mach} (h : Tame m) {a : L} (ha : a.length ≤ 100000000000000) : Tame (create m a).2 := by
  have h1 := h.act 0 (a := a) (b := []) (s := []) ha zb8 0 0
  exact h1
/-- Both make a file. -/
theorem two_create {s : ByteArray} (h : Two w bp br m m H) (hi : Inv C m) (hC : C ≤ 10000000) (hs : s.size ≤ 100000000000000) :
    ∃ F : Nat → Prop, Calls Try.prog 8 #[.pointer (some ⟨bp, 0, none⟩), .string s] w (fun e w1 => e = .returned (.int .i64 (create m s.data.toList).1) ∧ Plate w1 bp (create m s.data.toList).2 (grow F w w1) ∧ Tch F w w1) ∧
      ∀ w1, Plate w1 bp (create m s.data.toList).2 (grow F w w1) → Tch F w w1 → Calls Try.prog 9 #[.pointer (some ⟨br, 0, none⟩), .string s] w1 (fun e w3 => e = .returned (.int .i64 (create m s.data.toList).1) ∧ Two w3 bp br (create m s.data.toList).2 (create m s.data.toList).2 (grow H w w3) ∧ Tch H w w3) := by
  obtain ⟨F, G, hp, hr, hd, hF, hH⟩ := h
  refine ⟨F, Create_calls bp m F s w hp hi zb6 hs, fun w1 hp1 t1 => (CreateR_calls s hs (hr.next t1 (fun i hg _ hf => hd i hf hg)) hi zb6).mono ?_⟩
  rintro e w3 ⟨he, hr3, t3⟩
  obtain ⟨h1, h2⟩ := two_done hd hF hH (Tch.refl _ _) hp1 t1 (Tch.refl _ _) hr3 t3
  exact ⟨he, h1, h2⟩
set_option maxRecDepth 100000 in
set_option maxHeartbeats 4000000 in
theorem many_calls (n : Nat) (hn : n < 256) (w : World) :
    Calls Try.prog 3 #[.int .u8 (n : Int)] w fun e w' => e = .returned (.bool true) ∧ Below w.heap.size w w' := by
  have H0 := Lib.hid (newW_ok 100 w zb8 zb8)
  have H1 := Lib.hid (fun W => newR_ok 100 W zb8 zb8)
  have HA := Lib.hid (fun W => awake_calls W)
  have e1 : Int.tmod (n : Int) 16 = ((n % 16 : Nat) : Int) := tmod_nat n 16
  have hn2 : n % 16 < 16 := Nat.mod_lt _ zb8
  generalize n % 16 = k at *
  go_enter Try.func3, Try.ntmps3
  go_wp2_with (first
    | (go_at_call 6; refine H0.out.mono ?_; rintro e w1 ⟨bp, rfl, hbp, hp, ht⟩; have P1 := Lib.hid hp; have T1 := Lib.hid ht; clear hbp hp ht)
    | (go_at_call 7; refine (H1.out _).mono ?_; rintro e w2 ⟨br, rfl, hbr, hr, hb⟩; have TW := Lib.hid (two_new P1.out T1.out hr hb); have BW := Lib.hid ((T1.out.below (Nat.le_refl _) (fun _ h => h.elim)).trans (hb.mono T1.out.size)); clear hbr hr hb P1 T1)
    | go_in)
  go_loopw [7, 8] (fun v7 _ wr => ∃ (i : Nat) (m : Mach) (H : Nat → Prop), v7 = Value.int .i64 (i : Int) ∧ i ≤ 195 + k ∧ Two wr bp br m m H ∧ Inv (4 + 2 * i) m ∧ Tame m ∧ (∀ j, H j → w.heap.size ≤ j) ∧ Below w.heap.size w wr)
    (fun v7 _ _ => 195 + k - (intOf v7).toNat)
  case atStart => exact ⟨0, fresh 100, _, rfl, Nat.zero_le _, TW.out, fresh_inv 100 zb8 zb8 _, Tame.fresh _, fun j hj => hj.1, BW.out⟩
  case round =>
    obtain ⟨i, m, H, rfl, hil, htw, hinv, htame, hH, hbw⟩ := hrel
    by_cases hlt : i < 195 + k
    · have hdec : ((i : Int) < 195 + (k : Int)) := by omega
      have q1 : Int.tdiv (i : Int) 20 = ((i / 20 : Nat) : Int) := by rw [Int.tdiv_eq_ediv_of_nonneg zb6]; omega
      have q2 : Int.tmod (i : Int) 20 = ((i % 20 : Nat) : Int) := tmod_nat i 20
      have b1 : i / 20 < 11 := by omega
      have b2 : i % 20 < 20 := Nat.mod_lt _ zb8
      have TW2 := Lib.hid htw
      have INV := Lib.hid hinv
      have TAME := Lib.hid htame
      have HH := Lib.hid hH
      have BW2 := Lib.hid hbw
      clear htw hinv htame hH hbw
      generalize i / 20 = x at *
      generalize i % 20 = y at *
      have w1 : IntKind.u8.wrap (97 + (x : Int)) = ((97 + x : Nat) : Int) := by rw [show (97 : Int) + (x : Int) = ((97 + x : Nat) : Int) by omega]; exact wrap_u8 _ zb6
      have w2 : IntKind.u8.wrap (97 + (y : Int)) = ((97 + y : Nat) : Int) := by rw [show (97 : Int) + (y : Int) = ((97 + y : Nat) : Int) by omega]; exact wrap_u8 _ zb6
      obtain ⟨S, hS⟩ : ∃ S, S = strOfNums [97 + (x : Int), 97 + (y : Int)] := ⟨_, rfl⟩
      have hSz : S.size = 2 := by
        rw [hS]
        simp [strOfNums, ByteArray.size]
      have hconv : (convert 29 9 (.slice (some ⟨wr.heap.size, 0, none⟩) 2 2)).run Try.prog (wr.alloc (.cells #[.int .u8 (97 + (x : Int)), .int .u8 (97 + (y : Int))] 5)) = .ok (.string S) (wr.alloc (.cells #[.int .u8 (97 + (x : Int)), .int .u8 (97 + (y : Int))] 5)) := by
        rw [hS]
        exact own_string Try.underlying29 Try.underlying5 Try.underlying9 (own_lit wr 0 5 .u8 [97 + (x : Int), 97 + (y : Int)] (Nat.zero_le _) (show (2 : Nat) ≤ 9223372036854775807 by decide))
      have hcat : (⟨#[102]⟩ : ByteArray).size + S.size ≤ 9223372036854775807 := by rw [hSz]; decide
      have hnm : ((⟨#[102]⟩ : ByteArray) ++ S).size ≤ 100000000000000 := by rw [ByteArray.size_append, hSz]; decide
      obtain ⟨nm, hnme⟩ : ∃ nm, ((⟨#[102]⟩ : ByteArray) ++ S) = nm := ⟨_, rfl⟩
      rw [hnme] at hnm
      have HNM := Lib.hid hnm
      clear hS hnm
      have hb1 : Below wr.heap.size wr (wr.alloc (.cells #[.int .u8 (97 + (x : Int)), .int .u8 (97 + (y : Int))] 5)) := (Below.refl _ _).alloc (Nat.le_refl _) _
      obtain ⟨F, c1, c2⟩ := two_create (TW2.out.below hb1) INV.out zb6 HNM.out
      have HC1 := Lib.hid c1
      have HC2 := Lib.hid c2
      have HB1 := Lib.hid hb1
      clear c1 c2 hb1
      go_wp2_with (first
        | (go_at_call 8; refine HC1.out.mono ?_; rintro e w3 ⟨rfl, hp3, ht3⟩; have HP3 := Lib.hid hp3; have HT3 := Lib.hid ht3; clear hp3 ht3)
        | (go_at_call 9; refine (HC2.out _ HP3.out HT3.out).mono ?_; rintro e w4 ⟨rfl, hp4, ht4⟩; have HP4 := Lib.hid hp4; have HT4 := Lib.hid ht4; clear hp4 ht4)
        | go_in)
      go_roundw
      case rel =>
        have hsz := HB1.out.size
        have hsz0 := BW2.out.size
        refine ⟨i + 1, _, _, by push_cast; rfl, by omega, HP4.out, (create_inv INV.out _).mono zb6, ?_, fun j hj => ?_, ?_⟩
        · exact TAME.out.create (by rw [← Lib.size_eq]; exact HNM.out)
        · rcases hj with hj | ⟨hj, _⟩
          · exact HH.out j hj
          · omega
        · exact (BW2.out.trans (HB1.out.mono hsz0)).trans (HT4.out.below zb6 HH.out)
      case measure =>
        show 195 + k - ((i : Int) + 1).toNat < 195 + k - (i : Int).toNat
        omega
    · have hdec : ¬ ((i : Int) < 195 + (k : Int)) := by omega
      have TW2 := Lib.hid htw
      have INV := Lib.hid hinv
      have TAME := Lib.hid htame
      have BW2 := Lib.hid hbw
      have hC : 4 + 2 * i ≤ 10000000 := by omega
      clear htw hinv htame hbw
      go_wp2_with (first
        | (go_at_call 10; refine (HA.out _).mono ?_; rintro e w3 ⟨rfl, hb3⟩; have HB3 := Lib.hid hb3; clear hb3)
        | (go_at_call 11; refine (all_calls (TW2.out.below HB3.out) INV.out hC TAME.out).mono ?_; rintro e w4 ⟨rfl, hb4⟩; have HB4 := Lib.hid hb4; clear hb4)
        | go_in)
      go_ret
      exact ⟨rfl, (BW2.out.trans (HB3.out.mono BW2.out.size)).trans (HB4.out.mono (Nat.le_trans BW2.out.size HB3.out.size))⟩
end
end Go.Proofs.Ytblmjnknagpacaa.Pl
