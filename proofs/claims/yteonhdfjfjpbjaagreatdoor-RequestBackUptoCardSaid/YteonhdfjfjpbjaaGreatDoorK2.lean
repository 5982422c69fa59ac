/- Texts of this seat, joined: lemmas and walks that its statements' proofs use. -/
import Derived.Test.YteonhdfjfjpbjaaGreatDoorK1
import Derived.Maps.AppendAt
import Derived.BigRegion
import Derived.LoopN
import Derived.Lib.SplitLaws
import Derived.Lib.AtoiAllCases
/- Ohex -/
namespace Go.Proofs.YteonhdfjfjpbjaaGreatDoor.O
open Go.RowKit Go.Proofs.YteonhdfjfjpbjaaGreatDoorW.PrintWords Go.Proofs.YteonhdfjfjpbjaaGreatDoorW.PrintLast Go.Proofs.YteonhdfjfjpbjaaGreatDoorW.PrintMore
set_option linter.unusedVariables false
set_option linter.unusedSimpArgs false
def isHex (c : Int) : Bool := decide (48 ≤ c) && decide (c ≤ 57) || decide (65 ≤ c) && decide (c ≤ 70) || decide (97 ≤ c) && decide (c ≤ 102)
def hexI (c : Int) : Int := if c ≤ 57 then c - 48 else if c ≤ 70 then c - 55 else c - 87
theorem isHex_cases {c : Int} (h : isHex c = true) : (48 ≤ c ∧ c ≤ 57) ∨ (65 ≤ c ∧ c ≤ 70) ∨ (97 ≤ c ∧ c ≤ 102) := by
  unfold isHex at h
  simp at h
  omega
theorem hexI_bd {c : Int} (h : isHex c = true) : 0 ≤ hexI c ∧ hexI c ≤ 15 := by
  have := isHex_cases h
  unfold hexI
  split
  · omega
  · split <;> omega
theorem or_small (c : Int) (h : 97 ≤ c ∧ c ≤ 102) : Go.bits .or .u8 c 32 = c := by
  obtain ⟨a, rfl⟩ := Int.eq_ofNat_of_zero_le (show 0 ≤ c by omega)
  have key : ∀ a : Fin 6, Go.bits .or .u8 (((a.val + 97 : Nat)) : Int) 32 = ((a.val + 97 : Nat) : Int) := by decide +kernel
  have := key ⟨a - 97, by omega⟩
  rwa [show a - 97 + 97 = a by omega] at this
def puR (s : ByteArray) : Nat → Nat → Int → Int × Option Int
  | 0, _, n => (n, none)
  | f + 1, k, n => if n ≥ 1152921504606846976 then (18446744073709551615, some 1) else puR s f (k + 1) (n * 16 + hexI (bt s k))
def allHex (s : ByteArray) : Bool := (List.range s.size).all fun j => isHex (bt s j)
theorem allHex_at {s : ByteArray} (h : allHex s = true) (k : Nat) (hk : k < s.size) : isHex (bt s k) = true := by
  unfold allHex at h
  rw [List.all_eq_true] at h
  exact h k (List.mem_range.2 hk)
/-- How the library's inner function tells its error. -/
def errI : Option Int → Value
  | none => .nilIface
  | some e => .iface 130 (.int .i64 (if e = 0 then 2 else 1))
def puS (s : ByteArray) : Int × Option Int := if s.size = 0 then (0, some 0) else puR s s.size 0 0
set_option maxHeartbeats 4000000 in
set_option maxRecDepth 100000 in
theorem inner_ParseUint (a0 : ByteArray) (w : World) (hx : allHex a0 = true) (hsz : a0.size ≤ 281474976710656) :
    Calls Tryz.prog 84 #[.string a0, .int .i64 16, .int .i64 64] w fun e w' => e = .returned (.tuple #[.int .u64 (puS a0).1, errI (puS a0).2]) ∧ Below w.heap.size w w' := by
  by_cases h0 : a0.size = 0
  · obtain rfl : a0 = ByteArray.empty := ByteArray.size_eq_zero_iff.1 h0
    clear hx
    go_enter Tryz.func84, Tryz.ntmps84
    go_wp2
    go_ret2
    exact ⟨rfl, Below.refl _ _⟩
  have hS : Hid (puS a0 = puR a0 a0.size 0 0) := Lib.hid (by unfold puS; rw [if_neg h0])
  have hne : a0.toList ≠ [] := by
    intro h
    apply h0
    have h2 := congrArg List.length h
    rw [ByteArray.toList_eq, data_length] at h2
    simpa using h2
  have hb0 : (a0.toList == []) = false := by simpa using hne
  have hxx := Lib.hid hx
  clear hx
  have hconv := Lib.run_convert_string_bytes (P := Tryz.prog) w 9 23 5 a0 Tryz.underlying9 Tryz.underlying23 Tryz.underlying5
  have hb := Lib.hid (below_bytes w 5 a0)
  have hcell := Lib.hid (fun j hj => Lib.bytesWorld_cell w 5 a0 j hj)
  generalize Lib.bytesWorld w 5 a0 = w1 at *
  generalize grownCap w a0.size 0 5 = cap at *
  have hmax : IntKind.u64.wrap (IntKind.u64.wrap 18446744073709551616 - 1) = 18446744073709551615 := by decide
  go_enter Tryz.func84, Tryz.ntmps84
  go_wp2
  go_loop [12, 13, 101] (fun us n i => ∃ (k : Nat) (x : Int), k ≤ a0.size ∧ us = .bool false ∧ i = .int .i64 k ∧ n = .int .u64 x ∧ Hid (0 ≤ x ∧ x < 18446744073709551616) ∧ Hid (puS a0 = puR a0 (a0.size - k) k x)) (fun _ _ i => a0.size - (intOf i).toNat)
  case atStart => exact ⟨0, 0, Nat.zero_le _, rfl, rfl, rfl, Lib.hid ⟨by omega, by omega⟩, Lib.hid hS.out⟩
  case round =>
    obtain ⟨k, x, hk, rfl, rfl, rfl, hbd, hP⟩ := hrel
    by_cases hlt : k < a0.size
    · have hc : w1.cell? ⟨w.heap.size, k, none⟩ = some (.int .u8 (bt a0 k)) := by rw [hcell.out k hlt, bt_getD a0 k hlt]
      have hxk := allHex_at hxx.out k hlt
      have hI := hexI_bd hxk
      have hcs := isHex_cases hxk
      obtain ⟨x0, x1⟩ := hbd.out
      have hP2 : Hid (puS a0 = if x ≥ 1152921504606846976 then (18446744073709551615, some 1) else puR a0 (a0.size - (k + 1)) (k + 1) (x * 16 + hexI (bt a0 k))) := Lib.hid (by
        have := hP.out
        rwa [show a0.size - k = (a0.size - (k + 1)) + 1 by omega, puR] at this)
      clear hP hxk
      by_cases hbig : x ≥ 1152921504606846976
      · have hend : Hid (puS a0 = (18446744073709551615, some 1)) := Lib.hid (by rw [hP2.out, if_pos hbig])
        clear hP2
        rcases hcs with ⟨c1, c2⟩ | ⟨c1, c2⟩ | ⟨c1, c2⟩
        · have hh : Hid (hexI (bt a0 k) = bt a0 k - 48) := Lib.hid (by unfold hexI; rw [if_pos c2])
          have c95 : ¬ bt a0 k = 95 := by omega
          generalize bt a0 k = c at *
          clear hI
          go_wp2
          go_ret2
          rw [hend.out]
          exact ⟨rfl, hb.out⟩
        · have hh : Hid (hexI (bt a0 k) = bt a0 k - 55) := Lib.hid (by unfold hexI; rw [if_neg zb17, if_pos c2])
          have hlow : Hid (∀ W : World, Calls Tryz.prog 112 #[.int .u8 (bt a0 k)] W fun e w' => e = .returned (.int .u8 (bt a0 k + 32)) ∧ w' = W) := Lib.hid (fun W => by have h := Tryz.internal_strconv_lower (bt a0 k) W; rwa [low_or _ ⟨c1, by omega⟩] at h)
          have c95 : ¬ bt a0 k = 95 := by omega
          generalize bt a0 k = c at *
          clear hI
          go_wp2_with (go_at_call 112; refine (hlow.out _).mono ?_; rintro e w' ⟨rfl, rfl⟩)
          go_ret2
          rw [hend.out]
          exact ⟨rfl, hb.out⟩
        · have hh : Hid (hexI (bt a0 k) = bt a0 k - 87) := Lib.hid (by unfold hexI; rw [if_neg zb17, if_neg zb17])
          have hlow : Hid (∀ W : World, Calls Tryz.prog 112 #[.int .u8 (bt a0 k)] W fun e w' => e = .returned (.int .u8 (bt a0 k)) ∧ w' = W) := Lib.hid (fun W => by have h := Tryz.internal_strconv_lower (bt a0 k) W; rwa [or_small _ ⟨c1, c2⟩] at h)
          have c95 : ¬ bt a0 k = 95 := by omega
          generalize bt a0 k = c at *
          clear hI
          go_wp2_with (go_at_call 112; refine (hlow.out _).mono ?_; rintro e w' ⟨rfl, rfl⟩)
          go_ret2
          rw [hend.out]
          exact ⟨rfl, hb.out⟩
      · have hP3 : Hid (puS a0 = puR a0 (a0.size - (k + 1)) (k + 1) (x * 16 + hexI (bt a0 k))) := Lib.hid (by rw [hP2.out, if_neg hbig])
        clear hP2
        have hnx : x < 1152921504606846976 := by omega
        rcases hcs with ⟨c1, c2⟩ | ⟨c1, c2⟩ | ⟨c1, c2⟩
        · have hh : Hid (hexI (bt a0 k) = bt a0 k - 48) := Lib.hid (by unfold hexI; rw [if_pos c2])
          have c95 : ¬ bt a0 k = 95 := by omega
          generalize bt a0 k = c at *
          clear hbig hI
          go_wp2
          go_round
          case rel => exact ⟨k + 1, x * 16 + hexI c, by omega, rfl, by go_num, by first | (rw [hh.out]; done) | (rw [hh.out]; go_num), Lib.hid ⟨by rw [hh.out]; omega, by rw [hh.out]; omega⟩, Lib.hid hP3.out⟩
          case measure => simp [intOf]; omega
        · have hh : Hid (hexI (bt a0 k) = bt a0 k - 55) := Lib.hid (by unfold hexI; rw [if_neg zb17, if_pos c2])
          have hlow : Hid (∀ W : World, Calls Tryz.prog 112 #[.int .u8 (bt a0 k)] W fun e w' => e = .returned (.int .u8 (bt a0 k + 32)) ∧ w' = W) := Lib.hid (fun W => by have h := Tryz.internal_strconv_lower (bt a0 k) W; rwa [low_or _ ⟨c1, by omega⟩] at h)
          have c95 : ¬ bt a0 k = 95 := by omega
          generalize bt a0 k = c at *
          clear hbig hI
          go_wp2_with (go_at_call 112; refine (hlow.out _).mono ?_; rintro e w' ⟨rfl, rfl⟩)
          go_round
          case rel => exact ⟨k + 1, x * 16 + hexI c, by omega, rfl, by go_num, by first | (rw [hh.out]; done) | (rw [hh.out]; go_num), Lib.hid ⟨by rw [hh.out]; omega, by rw [hh.out]; omega⟩, Lib.hid hP3.out⟩
          case measure => simp [intOf]; omega
        · have hh : Hid (hexI (bt a0 k) = bt a0 k - 87) := Lib.hid (by unfold hexI; rw [if_neg zb17, if_neg zb17])
          have hlow : Hid (∀ W : World, Calls Tryz.prog 112 #[.int .u8 (bt a0 k)] W fun e w' => e = .returned (.int .u8 (bt a0 k)) ∧ w' = W) := Lib.hid (fun W => by have h := Tryz.internal_strconv_lower (bt a0 k) W; rwa [or_small _ ⟨c1, c2⟩] at h)
          have c95 : ¬ bt a0 k = 95 := by omega
          generalize bt a0 k = c at *
          clear hbig hI
          go_wp2_with (go_at_call 112; refine (hlow.out _).mono ?_; rintro e w' ⟨rfl, rfl⟩)
          go_round
          case rel => exact ⟨k + 1, x * 16 + hexI c, by omega, rfl, by go_num, by first | (rw [hh.out]; done) | (rw [hh.out]; go_num), Lib.hid ⟨by rw [hh.out]; omega, by rw [hh.out]; omega⟩, Lib.hid hP3.out⟩
          case measure => simp [intOf]; omega
    · obtain rfl : k = a0.size := by omega
      have hend : Hid (puS a0 = (x, none)) := Lib.hid (by
        have := hP.out
        rwa [Nat.sub_self, puR] at this)
      clear hP
      go_wp2
      go_ret2
      rw [hend.out]
      exact ⟨rfl, hb.out⟩
def strconv_ParseUint.f (a0 : ByteArray) (a1 a2 : Int) : Option (Int × Option Int) := if a1 = 16 ∧ a2 = 64 ∧ allHex a0 = true ∧ a0.size ≤ 281474976710656 then some (puS a0) else none
theorem puR_err (s : ByteArray) : ∀ (f k : Nat) (n : Int), (puR s f k n).2 = none ∨ puR s f k n = (18446744073709551615, some 1)
  | 0, _, _ => .inl rfl
  | f + 1, k, n => by
    unfold puR
    split
    · exact .inr rfl
    · exact puR_err s f _ _
theorem puS_err (s : ByteArray) : (puS s).2 = none ∨ puS s = (18446744073709551615, some 1) ∨ puS s = (0, some 0) := by
  unfold puS
  split
  · exact .inr (.inr rfl)
  · rcases puR_err s s.size 0 0 with h | h
    · exact .inl h
    · exact .inr (.inl h)
set_option maxHeartbeats 1000000 in
theorem strconv_ParseUint.calls (a0 : ByteArray) (a1 a2 : Int) (r1 : Int) (r2 : Option Int) (w : World) (hG : Glob w) (h : strconv_ParseUint.f a0 a1 a2 = some (r1, r2)) :
    Calls Tryz.prog 47 #[.string a0, .int .i64 a1, .int .i64 a2] w fun e w' => ∃ pv, ErrIs r2 pv ∧ e = .returned (.tuple #[.int .u64 r1, pv]) ∧ Below w.heap.size w w' := by
  unfold strconv_ParseUint.f at h
  split at h
  case isFalse => exact absurd h zb25
  rename_i hc
  obtain ⟨rfl, rfl, hx, hsz⟩ := hc
  have hi := inner_ParseUint a0 w hx hsz
  rw [Option.some.inj h] at hi
  have hI := Lib.hid hi
  have hcase := puS_err a0
  rw [Option.some.inj h] at hcase
  clear hi h hx
  rcases hcase with hn | hr | hr
  · have hn' : r2 = none := hn
    subst hn'
    have hI2 : Hid (Calls Tryz.prog 84 #[.string a0, .int .i64 16, .int .i64 64] w fun e w' => e = .returned (.tuple #[.int .u64 r1, .nilIface]) ∧ Below w.heap.size w w') := Lib.hid hI.out
    clear hI hn
    go_enter Tryz.func47, Tryz.ntmps47
    go_wp2_with (go_at_call 84; refine hI2.out.mono ?_; rintro e w' ⟨rfl, hb⟩; have hb := Lib.hid hb)
    go_ret2
    exact ⟨_, rfl, rfl, hb.out⟩
  · obtain ⟨rfl, rfl⟩ := Prod.mk.inj hr
    have hI2 : Hid (Calls Tryz.prog 84 #[.string a0, .int .i64 16, .int .i64 64] w fun e w' => e = .returned (.tuple #[.int .u64 18446744073709551615, .iface 130 (.int .i64 1)]) ∧ Below w.heap.size w w') := Lib.hid hI.out
    have hT : Hid (∀ W : World, Below w.heap.size w W → Calls Tryz.prog 85 #[.string (⟨#[80, 97, 114, 115, 101, 85, 105, 110, 116]⟩ : ByteArray), .string a0, .int .i64 16, .int .i64 64, .iface 130 (.int .i64 1)] W fun e w' => (∃ t p, e = .returned (.iface t p)) ∧ Below W.heap.size W w') := Lib.hid (fun W hW => by
      obtain ⟨t, p, hv⟩ := (hG.below hW).rng
      have hc0 : W.cell? ⟨3, 0, none⟩ = some (.iface t p) := by have h0 := World.var?_cell grng hv 0; simpa using h0
      refine (Tryz.strconv_toError_range _ a0 16 64 _ W hsz hc0 (.inr ⟨t, p, rfl⟩)).mono ?_
      rintro e w' ⟨N, rfl, _, _, hb⟩
      exact ⟨⟨_, _, rfl⟩, hb⟩)
    clear hI hr
    go_enter Tryz.func47, Tryz.ntmps47
    go_wp2_with (first | (go_at_call 84; refine hI2.out.mono ?_; rintro e w' ⟨rfl, hb⟩; have hb := Lib.hid hb) | (go_at_call 85; refine (hT.out _ hb.out).mono ?_; rintro e w'' ⟨⟨t, p, rfl⟩, hb2⟩; have hb2 := Lib.hid hb2))
    go_ret2
    exact ⟨_, ⟨_, _, rfl⟩, rfl, below_step hb.out hb2.out⟩
  · obtain ⟨rfl, rfl⟩ := Prod.mk.inj hr
    have hI2 : Hid (Calls Tryz.prog 84 #[.string a0, .int .i64 16, .int .i64 64] w fun e w' => e = .returned (.tuple #[.int .u64 0, .iface 130 (.int .i64 2)]) ∧ Below w.heap.size w w') := Lib.hid hI.out
    have hT : Hid (∀ W : World, Below w.heap.size w W → Calls Tryz.prog 85 #[.string (⟨#[80, 97, 114, 115, 101, 85, 105, 110, 116]⟩ : ByteArray), .string a0, .int .i64 16, .int .i64 64, .iface 130 (.int .i64 2)] W fun e w' => (∃ t p, e = .returned (.iface t p)) ∧ Below W.heap.size W w') := Lib.hid (fun W hW => by
      obtain ⟨t, p, hv⟩ := (hG.below hW).syn
      have hc0 : W.cell? ⟨2, 0, none⟩ = some (.iface t p) := by have h0 := World.var?_cell gsyn hv 0; simpa using h0
      refine (Tryz.strconv_toError_syntax _ a0 16 64 _ W hsz hc0 (.inr ⟨t, p, rfl⟩)).mono ?_
      rintro e w' ⟨N, rfl, _, _, hb⟩
      exact ⟨⟨_, _, rfl⟩, hb⟩)
    clear hI hr
    go_enter Tryz.func47, Tryz.ntmps47
    go_wp2_with (first | (go_at_call 84; refine hI2.out.mono ?_; rintro e w' ⟨rfl, hb⟩; have hb := Lib.hid hb) | (go_at_call 85; refine (hT.out _ hb.out).mono ?_; rintro e w'' ⟨⟨t, p, rfl⟩, hb2⟩; have hb2 := Lib.hid hb2))
    go_ret2
    exact ⟨_, ⟨_, _, rfl⟩, rfl, below_step hb.out hb2.out⟩
end Go.Proofs.YteonhdfjfjpbjaaGreatDoor.O
/- Px10 -/
namespace Go.Proofs.YteonhdfjfjpbjaaGreatDoor.P
open Go.Proofs.YteonhdfjfjpbjaaGreatDoor.B
open Go.RowKit Go.Proofs.YteonhdfjfjpbjaaGreatDoorW.PrintWords Go.Proofs.YteonhdfjfjpbjaaGreatDoorW.PrintLast Go.Proofs.YteonhdfjfjpbjaaGreatDoorW.PrintMore
attribute [local go_sem] str_leq str_gtr str_geq max2_int min2_int max_two min_two max_three min_three max_four min_four
set_option linter.unusedVariables false
set_option linter.unusedSimpArgs false
open Go.Proofs.YteonhdfjfjpbjaaGreatDoor.O
def chunk_size.f (k : Nat) (a0 : ByteArray) : Option (Int × Bool) := (strings_TrimLeft.f a0 (⟨#[48, 49, 50, 51, 52, 53, 54, 55, 56, 57, 97, 98, 99, 100, 101, 102, 65, 66, 67, 68, 69, 70]⟩ : ByteArray)).bind fun t131 => (if 0 ≤ (wrap64 ((a0.size : Int) - (t131.size : Int))) then (if (wrap64 ((a0.size : Int) - (t131.size : Int))) ≤ (a0.size : Int) then (if 0 ≤ ((a0.extract 0 ((wrap64 ((a0.size : Int) - (t131.size : Int))) : Int).toNat).size : Int) then (if ((a0.extract 0 ((wrap64 ((a0.size : Int) - (t131.size : Int))) : Int).toNat).size : Int) ≤ (a0.size : Int) then ((media_Text_Params.f k (a0.extract (((a0.extract 0 ((wrap64 ((a0.size : Int) - (t131.size : Int))) : Int).toNat).size : Int) : Int).toNat a0.size)).bind fun bt133 => ((strconv_ParseUint.f (a0.extract 0 ((wrap64 ((a0.size : Int) - (t131.size : Int))) : Int).toNat) 16 64).bind fun bt138 => (if bt138.2.isNone = true then (if bt133.2.1 = true then (some (wrap64 (bt138.1), decide (((a0.extract 0 ((wrap64 ((a0.size : Int) - (t131.size : Int))) : Int).toNat).size : Int) ≤ 8))) else (some (wrap64 (bt138.1), false))) else (if bt133.2.1 = true then (some (wrap64 (bt138.1), false)) else (some (wrap64 (bt138.1), false)))))) else (none)) else (none)) else (none)) else (none))
set_option maxHeartbeats 8000000 in
set_option maxRecDepth 100000 in
theorem chunk_size.calls (k : Nat) (a0 : ByteArray) (r1 : Int) (r2 : Bool) (w : World) (hG : Glob w) (h : chunk_size.f k a0 = some (r1, r2)) :
  Calls Tryz.prog 32 #[.string a0] w fun e w' => e = .returned (.tuple #[.int .i64 r1, .bool r2]) ∧ Below w.heap.size w w' := by
 have hu56 := Tryz.underlying56
 have HB := Aside0.mk (Below.refl w.heap.size w)
 have hGA := Aside0.mk hG
 clear hG
 have H : ((strings_TrimLeft.f a0 (⟨#[48, 49, 50, 51, 52, 53, 54, 55, 56, 57, 97, 98, 99, 100, 101, 102, 65, 66, 67, 68, 69, 70]⟩ : ByteArray)).bind fun t131 => (if 0 ≤ (wrap64 ((a0.size : Int) - (t131.size : Int))) then (if (wrap64 ((a0.size : Int) - (t131.size : Int))) ≤ (a0.size : Int) then (if 0 ≤ ((a0.extract 0 ((wrap64 ((a0.size : Int) - (t131.size : Int))) : Int).toNat).size : Int) then (if ((a0.extract 0 ((wrap64 ((a0.size : Int) - (t131.size : Int))) : Int).toNat).size : Int) ≤ (a0.size : Int) then ((media_Text_Params.f k (a0.extract (((a0.extract 0 ((wrap64 ((a0.size : Int) - (t131.size : Int))) : Int).toNat).size : Int) : Int).toNat a0.size)).bind fun bt133 => ((strconv_ParseUint.f (a0.extract 0 ((wrap64 ((a0.size : Int) - (t131.size : Int))) : Int).toNat) 16 64).bind fun bt138 => (if bt138.2.isNone = true then (if bt133.2.1 = true then (some (wrap64 (bt138.1), decide (((a0.extract 0 ((wrap64 ((a0.size : Int) - (t131.size : Int))) : Int).toNat).size : Int) ≤ 8))) else (some (wrap64 (bt138.1), false))) else (if bt133.2.1 = true then (some (wrap64 (bt138.1), false)) else (some (wrap64 (bt138.1), false)))))) else (none)) else (none)) else (none)) else (none))) = some (r1, r2) := h
 clear h
 replace H := Option.bind_eq_some_iff.mp H
 obtain ⟨t131, A20, H⟩ := H
 replace H : (if 0 ≤ (wrap64 ((a0.size : Int) - (t131.size : Int))) then (if (wrap64 ((a0.size : Int) - (t131.size : Int))) ≤ (a0.size : Int) then (if 0 ≤ ((a0.extract 0 ((wrap64 ((a0.size : Int) - (t131.size : Int))) : Int).toNat).size : Int) then (if ((a0.extract 0 ((wrap64 ((a0.size : Int) - (t131.size : Int))) : Int).toNat).size : Int) ≤ (a0.size : Int) then ((media_Text_Params.f k (a0.extract (((a0.extract 0 ((wrap64 ((a0.size : Int) - (t131.size : Int))) : Int).toNat).size : Int) : Int).toNat a0.size)).bind fun bt133 => ((strconv_ParseUint.f (a0.extract 0 ((wrap64 ((a0.size : Int) - (t131.size : Int))) : Int).toNat) 16 64).bind fun bt138 => (if bt138.2.isNone = true then (if bt133.2.1 = true then (some (wrap64 (bt138.1), decide (((a0.extract 0 ((wrap64 ((a0.size : Int) - (t131.size : Int))) : Int).toNat).size : Int) ≤ 8))) else (some (wrap64 (bt138.1), false))) else (if bt133.2.1 = true then (some (wrap64 (bt138.1), false)) else (some (wrap64 (bt138.1), false)))))) else (none)) else (none)) else (none)) else (none)) = some (r1, r2) := H
 have A2 := Aside0.mk A20
 clear A20
 obtain ⟨ji3, hji3⟩ : ∃ j_ : Int, (wrap64 ((a0.size : Int) - (t131.size : Int))) = j_ := ⟨_, rfl⟩
 replace H : (if 0 ≤ (ji3) then (if (ji3) ≤ (a0.size : Int) then (if 0 ≤ ((a0.extract 0 ((ji3) : Int).toNat).size : Int) then (if ((a0.extract 0 ((ji3) : Int).toNat).size : Int) ≤ (a0.size : Int) then ((media_Text_Params.f k (a0.extract (((a0.extract 0 ((ji3) : Int).toNat).size : Int) : Int).toNat a0.size)).bind fun bt133 => ((strconv_ParseUint.f (a0.extract 0 ((ji3) : Int).toNat) 16 64).bind fun bt138 => (if bt138.2.isNone = true then (if bt133.2.1 = true then (some (wrap64 (bt138.1), decide (((a0.extract 0 ((ji3) : Int).toNat).size : Int) ≤ 8))) else (some (wrap64 (bt138.1), false))) else (if bt133.2.1 = true then (some (wrap64 (bt138.1), false)) else (some (wrap64 (bt138.1), false)))))) else (none)) else (none)) else (none)) else (none)) = some (r1, r2) := by first | (rw [hji3] at H; exact H) | (simp only [hji3] at H ⊢; exact H)
 (try rw [hji3] at A2)
 have hji3w : (IntKind.i64.wrap ((a0.size : Int) - (t131.size : Int))) = ji3 := (i64_w _).trans hji3
 by_cases c4 : 0 ≤ (ji3)
 ·rw [if_pos c4] at H
  have c4b0 := eq_true c4
  have c4b1 : decide (0 ≤ (ji3)) = true := decide_eq_true c4
  clear c4
  by_cases c5 : (ji3) ≤ (a0.size : Int)
  ·rw [if_pos c5] at H
   have c5b0 := eq_true c5
   have c5b1 : decide ((ji3) ≤ (a0.size : Int)) = true := decide_eq_true c5
   clear c5
   by_cases c6 : 0 ≤ ((a0.extract 0 ((ji3) : Int).toNat).size : Int)
   ·rw [if_pos c6] at H
    have c6b0 := eq_true c6
    have c6b1 : decide (0 ≤ ((a0.extract 0 ((ji3) : Int).toNat).size : Int)) = true := decide_eq_true c6
    clear c6
    by_cases c7 : ((a0.extract 0 ((ji3) : Int).toNat).size : Int) ≤ (a0.size : Int)
    ·rw [if_pos c7] at H
     have c7b0 := eq_true c7
     have c7b1 : decide (((a0.extract 0 ((ji3) : Int).toNat).size : Int) ≤ (a0.size : Int)) = true := decide_eq_true c7
     clear c7
     replace H := Option.bind_eq_some_iff.mp H
     obtain ⟨⟨t133, t136, t137⟩, A80, H⟩ := H
     replace H : ((strconv_ParseUint.f (a0.extract 0 ((ji3) : Int).toNat) 16 64).bind fun bt138 => (if bt138.2.isNone = true then (if t136 = true then (some (wrap64 (bt138.1), decide (((a0.extract 0 ((ji3) : Int).toNat).size : Int) ≤ 8))) else (some (wrap64 (bt138.1), false))) else (if t136 = true then (some (wrap64 (bt138.1), false)) else (some (wrap64 (bt138.1), false))))) = some (r1, r2) := H
     have e80 : (((a0.extract 0 ((ji3) : Int).toNat).size : Int)).toNat = (max ji3 0).toNat := by have p1 := of_eq_true c4b0; have p2 := of_eq_true c5b0; rw [ByteArray.size_extract]; omega
     rw [e80] at A80
     have e81 : ((a0.extract 0 ((ji3) : Int).toNat).size : Int) = max ji3 0 := by have p1 := of_eq_true c4b0; have p2 := of_eq_true c5b0; rw [ByteArray.size_extract]; omega
     have e81 := Aside0.mk e81
     have e82 : (max ji3 0 ≤ (a0.size : Int)) = True := eq_true (by have p1 := of_eq_true c4b0; have p2 := of_eq_true c5b0; omega)
     have e83 : decide (max ji3 0 ≤ (a0.size : Int)) = true := decide_eq_true (of_eq_true e82)
     have A8 := Aside0.mk A80
     clear A80
     replace H := Option.bind_eq_some_iff.mp H
     obtain ⟨⟨t138, t139⟩, A90, H⟩ := H
     replace H : (if t139.isNone = true then (if t136 = true then (some (wrap64 (t138), decide (((a0.extract 0 ((ji3) : Int).toNat).size : Int) ≤ 8))) else (some (wrap64 (t138), false))) else (if t136 = true then (some (wrap64 (t138), false)) else (some (wrap64 (t138), false)))) = some (r1, r2) := H
     have A9 := Aside0.mk A90
     clear A90
     rcases t139 with _ | q140
     ·have H1 : (if t136 = true then (some (wrap64 (t138), decide (((a0.extract 0 ((ji3) : Int).toNat).size : Int) ≤ 8))) else (some (wrap64 (t138), false))) = some (r1, r2) := by rw [if_pos (show (none : Option Int).isNone = true by rfl)] at H; exact H
      clear H
      have H := H1
      clear H1
      try simp only [errW_none, errW_some]
      by_cases c10 : t136 = true
      ·subst c10
       replace H : (some (wrap64 (t138), decide (((a0.extract 0 ((ji3) : Int).toNat).size : Int) ≤ 8))) = some (r1, r2) := by rw [if_pos rfl] at H; exact H
       simp only [Option.some.injEq, Prod.mk.injEq] at H
       obtain ⟨rfl, rfl⟩ := H
       go_enter Tryz.func32, Tryz.ntmps32
       go_wp2_with (first | ((with_reducible refine gate_callee (f := 58) rfl ?_); refine goesL_ (some 14) rfl rfl Tryz.func58 zb15 rfl #[.string a0, .string (⟨#[48, 49, 50, 51, 52, 53, 54, 55, 56, 57, 97, 98, 99, 100, 101, 102, 65, 66, 67, 68, 69, 70]⟩ : ByteArray)] rfl zb1 ?_; (with_reducible refine (strings_TrimLeft.calls a0 (⟨#[48, 49, 50, 51, 52, 53, 54, 55, 56, 57, 97, 98, 99, 100, 101, 102, 65, 66, 67, 68, 69, 70]⟩ : ByteArray) t131 _ A2.out).mono ?_); rintro e w11 ⟨rfl, hb⟩; refine ⟨_, rfl, ?_⟩; have n0_ := Aside0.mk (below_step zb0 hb); clear HB; have HB := n0_; clear n0_; (try clear hb); (try clear hb2); (try clear hk); (try clear hi)) | ((with_reducible refine gate_dst (N := 5) rfl ?_); (try (refine gate_guard (by rfl) ?_; dsimp only)); refine box_event ?hg (N := 5) ?hd (cs := #[.string (⟨#[]⟩ : ByteArray)]) (t := 90) ?hr ?_; (case hd => rfl); (case hg => rfl); (case hr => first | (go_simp; done) | (go_simp; rfl)); intro gb132 hg w12 hbox hb; have n0_ := Aside0.mk (below_step zb0 hb); have n1_ := Aside0.mk ((by rw [hg]; exact (below_size zb0) : w.heap.size ≤ gb132)); have n2_ := Aside0.mk ((by rw [hg]; exact (below_size zb0) : w.heap.size ≤ gb132)); have n3_ := Aside0.mk ((show IsS90 w w12 gb132 (⟨#[]⟩ : ByteArray) from ⟨hbox, zb40⟩)); clear HB; have HB := n0_; have GW132 := n1_; have GE132 := n2_; have HI132 := n3_; clear n0_ n1_ n2_ n3_; clear hb hbox hg; obtain ⟨HGz13, hgz13⟩ := HI132.out; have hcz13_0 := cellS90_0 HGz13; have hfz13_0 := blk_frozen HGz13 0; clear HGz13 hgz13) | ((with_reducible refine gate_callee (f := 59) rfl ?_); refine goesL_ (some 23) rfl rfl Tryz.func59 zb15 rfl #[.pointer (some ⟨gb132, 0, none⟩)] rfl zb1 ?_; (with_reducible refine (media_Text_Params.calls k gb132 (a0.extract (max ji3 0).toNat a0.size) t133 true t137 w _ ?side1 ?side2 A8.out).mono ?_); (case side1 => repeat (first | (with_reducible first | exact HI132.out | apply IsS90.alloc | apply IsS90.drewN | apply IsS90.drew | apply IsS90.set_0) | exact HI132.out)); (case side2 => repeat (first | (with_reducible first | exact HB.out | apply below_alloc | apply pw_below_drewN | apply below_drew1 | refine below_set ?_ (IsS90.ge HI132.out)) | exact HB.out)); rintro e w14 ⟨v134, rfl, ho0, hi, hb, hk⟩; refine ⟨_, rfl, ?_⟩; have n0_ := Aside0.mk (Kd.R_lower ho0 (below_size zb8)); have n1_ := Aside0.mk (hb); have n2_ := Aside0.mk (hi); clear HB; clear HI132; have HO135 := n0_; have HB := n1_; have HI132 := n2_; clear n0_ n1_ n2_; (try clear hb); (try clear hb2); (try clear hk); (try clear hi); (try clear ho0)) | ((with_reducible refine gate_callee (f := 47) rfl ?_); refine goesL_ (some 28) rfl rfl Tryz.func47 zb15 rfl #[.string (a0.extract 0 ((ji3) : Int).toNat), .int .i64 16, .int .i64 64] rfl zb30 ?_; (with_reducible refine (strconv_ParseUint.calls (a0.extract 0 ((ji3) : Int).toNat) 16 64 t138 none _ ?side1 A9.out).mono ?_); (case side1 => exact Glob.below hGA.out zb8); rintro e w15 ⟨pv16, hpv16, rfl, hb⟩; refine ⟨_, rfl, ?_⟩; obtain rfl := ErrIs.none_ hpv16; have n0_ := Aside0.mk (Kd.R_below zb38 hb); have n1_ := Aside0.mk (IsS90.below zb32 hb); have n2_ := Aside0.mk (below_step zb8 hb); clear HO135; clear HI132; clear HB; have HO135 := n0_; have HI132 := n1_; have HB := n2_; clear n0_ n1_ n2_; (try clear hb); (try clear hb2); (try clear hk); (try clear hi); (try simp only [errW_none, errW_some])))
       go_ret2
       exact ⟨by first | rfl | (rw [e81.out]; rfl) | (rw [e81.out]; simp; done) | (simp [errW_none, errW_some, bne_nil_] <;> rfl) | (simp only [← hji3]; first | rfl | (simp [errW_none, errW_some, bne_nil_] <;> rfl)) | (simp [*, errW_none, errW_some] <;> rfl), zb8⟩
      ·replace c10 := Bool.eq_false_iff.mpr c10
       subst c10
       replace H : (some (wrap64 (t138), false)) = some (r1, r2) := by rw [if_neg (show ¬ (false = true) by decide)] at H; exact H
       simp only [Option.some.injEq, Prod.mk.injEq] at H
       obtain ⟨rfl, rfl⟩ := H
       go_enter Tryz.func32, Tryz.ntmps32
       go_wp2_with (first | ((with_reducible refine gate_callee (f := 58) rfl ?_); refine goesL_ (some 14) rfl rfl Tryz.func58 zb15 rfl #[.string a0, .string (⟨#[48, 49, 50, 51, 52, 53, 54, 55, 56, 57, 97, 98, 99, 100, 101, 102, 65, 66, 67, 68, 69, 70]⟩ : ByteArray)] rfl zb1 ?_; (with_reducible refine (strings_TrimLeft.calls a0 (⟨#[48, 49, 50, 51, 52, 53, 54, 55, 56, 57, 97, 98, 99, 100, 101, 102, 65, 66, 67, 68, 69, 70]⟩ : ByteArray) t131 _ A2.out).mono ?_); rintro e w17 ⟨rfl, hb⟩; refine ⟨_, rfl, ?_⟩; have n0_ := Aside0.mk (below_step zb0 hb); clear HB; have HB := n0_; clear n0_; (try clear hb); (try clear hb2); (try clear hk); (try clear hi)) | ((with_reducible refine gate_dst (N := 5) rfl ?_); (try (refine gate_guard (by rfl) ?_; dsimp only)); refine box_event ?hg (N := 5) ?hd (cs := #[.string (⟨#[]⟩ : ByteArray)]) (t := 90) ?hr ?_; (case hd => rfl); (case hg => rfl); (case hr => first | (go_simp; done) | (go_simp; rfl)); intro gb132 hg w18 hbox hb; have n0_ := Aside0.mk (below_step zb0 hb); have n1_ := Aside0.mk ((by rw [hg]; exact (below_size zb0) : w.heap.size ≤ gb132)); have n2_ := Aside0.mk ((by rw [hg]; exact (below_size zb0) : w.heap.size ≤ gb132)); have n3_ := Aside0.mk ((show IsS90 w w18 gb132 (⟨#[]⟩ : ByteArray) from ⟨hbox, zb40⟩)); clear HB; have HB := n0_; have GW132 := n1_; have GE132 := n2_; have HI132 := n3_; clear n0_ n1_ n2_ n3_; clear hb hbox hg; obtain ⟨HGz19, hgz19⟩ := HI132.out; have hcz19_0 := cellS90_0 HGz19; have hfz19_0 := blk_frozen HGz19 0; clear HGz19 hgz19) | ((with_reducible refine gate_callee (f := 59) rfl ?_); refine goesL_ (some 23) rfl rfl Tryz.func59 zb15 rfl #[.pointer (some ⟨gb132, 0, none⟩)] rfl zb1 ?_; (with_reducible refine (media_Text_Params.calls k gb132 (a0.extract (max ji3 0).toNat a0.size) t133 false t137 w _ ?side1 ?side2 A8.out).mono ?_); (case side1 => repeat (first | (with_reducible first | exact HI132.out | apply IsS90.alloc | apply IsS90.drewN | apply IsS90.drew | apply IsS90.set_0) | exact HI132.out)); (case side2 => repeat (first | (with_reducible first | exact HB.out | apply below_alloc | apply pw_below_drewN | apply below_drew1 | refine below_set ?_ (IsS90.ge HI132.out)) | exact HB.out)); rintro e w20 ⟨v134, rfl, ho0, hi, hb, hk⟩; refine ⟨_, rfl, ?_⟩; have n0_ := Aside0.mk (Kd.R_lower ho0 (below_size zb8)); have n1_ := Aside0.mk (hb); have n2_ := Aside0.mk (hi); clear HB; clear HI132; have HO135 := n0_; have HB := n1_; have HI132 := n2_; clear n0_ n1_ n2_; (try clear hb); (try clear hb2); (try clear hk); (try clear hi); (try clear ho0)) | ((with_reducible refine gate_callee (f := 47) rfl ?_); refine goesL_ (some 28) rfl rfl Tryz.func47 zb15 rfl #[.string (a0.extract 0 ((ji3) : Int).toNat), .int .i64 16, .int .i64 64] rfl zb30 ?_; (with_reducible refine (strconv_ParseUint.calls (a0.extract 0 ((ji3) : Int).toNat) 16 64 t138 none _ ?side1 A9.out).mono ?_); (case side1 => exact Glob.below hGA.out zb8); rintro e w21 ⟨pv22, hpv22, rfl, hb⟩; refine ⟨_, rfl, ?_⟩; obtain rfl := ErrIs.none_ hpv22; have n0_ := Aside0.mk (Kd.R_below zb38 hb); have n1_ := Aside0.mk (IsS90.below zb32 hb); have n2_ := Aside0.mk (below_step zb8 hb); clear HO135; clear HI132; clear HB; have HO135 := n0_; have HI132 := n1_; have HB := n2_; clear n0_ n1_ n2_; (try clear hb); (try clear hb2); (try clear hk); (try clear hi); (try simp only [errW_none, errW_some])))
       go_ret2
       exact ⟨by first | rfl | (rw [e81.out]; rfl) | (rw [e81.out]; simp; done) | (simp [errW_none, errW_some, bne_nil_] <;> rfl) | (simp only [← hji3]; first | rfl | (simp [errW_none, errW_some, bne_nil_] <;> rfl)) | (simp [*, errW_none, errW_some] <;> rfl), zb8⟩
     ·have H1 : (if t136 = true then (some (wrap64 (t138), false)) else (some (wrap64 (t138), false))) = some (r1, r2) := by rw [if_neg (show ¬ (some q140).isNone = true by simp)] at H; exact H
      clear H
      have H := H1
      clear H1
      try simp only [errW_none, errW_some]
      by_cases c23 : t136 = true
      ·subst c23
       replace H : (some (wrap64 (t138), false)) = some (r1, r2) := by rw [if_pos rfl] at H; exact H
       simp only [Option.some.injEq, Prod.mk.injEq] at H
       obtain ⟨rfl, rfl⟩ := H
       go_enter Tryz.func32, Tryz.ntmps32
       go_wp2_with (first | ((with_reducible refine gate_callee (f := 58) rfl ?_); refine goesL_ (some 14) rfl rfl Tryz.func58 zb15 rfl #[.string a0, .string (⟨#[48, 49, 50, 51, 52, 53, 54, 55, 56, 57, 97, 98, 99, 100, 101, 102, 65, 66, 67, 68, 69, 70]⟩ : ByteArray)] rfl zb1 ?_; (with_reducible refine (strings_TrimLeft.calls a0 (⟨#[48, 49, 50, 51, 52, 53, 54, 55, 56, 57, 97, 98, 99, 100, 101, 102, 65, 66, 67, 68, 69, 70]⟩ : ByteArray) t131 _ A2.out).mono ?_); rintro e w24 ⟨rfl, hb⟩; refine ⟨_, rfl, ?_⟩; have n0_ := Aside0.mk (below_step zb0 hb); clear HB; have HB := n0_; clear n0_; (try clear hb); (try clear hb2); (try clear hk); (try clear hi)) | ((with_reducible refine gate_dst (N := 5) rfl ?_); (try (refine gate_guard (by rfl) ?_; dsimp only)); refine box_event ?hg (N := 5) ?hd (cs := #[.string (⟨#[]⟩ : ByteArray)]) (t := 90) ?hr ?_; (case hd => rfl); (case hg => rfl); (case hr => first | (go_simp; done) | (go_simp; rfl)); intro gb132 hg w25 hbox hb; have n0_ := Aside0.mk (below_step zb0 hb); have n1_ := Aside0.mk ((by rw [hg]; exact (below_size zb0) : w.heap.size ≤ gb132)); have n2_ := Aside0.mk ((by rw [hg]; exact (below_size zb0) : w.heap.size ≤ gb132)); have n3_ := Aside0.mk ((show IsS90 w w25 gb132 (⟨#[]⟩ : ByteArray) from ⟨hbox, zb40⟩)); clear HB; have HB := n0_; have GW132 := n1_; have GE132 := n2_; have HI132 := n3_; clear n0_ n1_ n2_ n3_; clear hb hbox hg; obtain ⟨HGz26, hgz26⟩ := HI132.out; have hcz26_0 := cellS90_0 HGz26; have hfz26_0 := blk_frozen HGz26 0; clear HGz26 hgz26) | ((with_reducible refine gate_callee (f := 59) rfl ?_); refine goesL_ (some 23) rfl rfl Tryz.func59 zb15 rfl #[.pointer (some ⟨gb132, 0, none⟩)] rfl zb1 ?_; (with_reducible refine (media_Text_Params.calls k gb132 (a0.extract (max ji3 0).toNat a0.size) t133 true t137 w _ ?side1 ?side2 A8.out).mono ?_); (case side1 => repeat (first | (with_reducible first | exact HI132.out | apply IsS90.alloc | apply IsS90.drewN | apply IsS90.drew | apply IsS90.set_0) | exact HI132.out)); (case side2 => repeat (first | (with_reducible first | exact HB.out | apply below_alloc | apply pw_below_drewN | apply below_drew1 | refine below_set ?_ (IsS90.ge HI132.out)) | exact HB.out)); rintro e w27 ⟨v134, rfl, ho0, hi, hb, hk⟩; refine ⟨_, rfl, ?_⟩; have n0_ := Aside0.mk (Kd.R_lower ho0 (below_size zb8)); have n1_ := Aside0.mk (hb); have n2_ := Aside0.mk (hi); clear HB; clear HI132; have HO135 := n0_; have HB := n1_; have HI132 := n2_; clear n0_ n1_ n2_; (try clear hb); (try clear hb2); (try clear hk); (try clear hi); (try clear ho0)) | ((with_reducible refine gate_callee (f := 47) rfl ?_); refine goesL_ (some 28) rfl rfl Tryz.func47 zb15 rfl #[.string (a0.extract 0 ((ji3) : Int).toNat), .int .i64 16, .int .i64 64] rfl zb30 ?_; (with_reducible refine (strconv_ParseUint.calls (a0.extract 0 ((ji3) : Int).toNat) 16 64 t138 (some q140) _ ?side1 A9.out).mono ?_); (case side1 => exact Glob.below hGA.out zb8); rintro e w28 ⟨pv29, hpv29, rfl, hb⟩; refine ⟨_, rfl, ?_⟩; obtain ⟨tpv29, ppv29, rfl⟩ := ErrIs.some_ hpv29; have n0_ := Aside0.mk (Kd.R_below zb38 hb); have n1_ := Aside0.mk (IsS90.below zb32 hb); have n2_ := Aside0.mk (below_step zb8 hb); clear HO135; clear HI132; clear HB; have HO135 := n0_; have HI132 := n1_; have HB := n2_; clear n0_ n1_ n2_; (try clear hb); (try clear hb2); (try clear hk); (try clear hi); (try simp only [errW_none, errW_some])))
       go_ret2
       exact ⟨by first | rfl | (rw [e81.out]; rfl) | (rw [e81.out]; simp; done) | (simp [errW_none, errW_some, bne_nil_] <;> rfl) | (simp only [← hji3]; first | rfl | (simp [errW_none, errW_some, bne_nil_] <;> rfl)) | (simp [*, errW_none, errW_some] <;> rfl), zb8⟩
      ·replace c23 := Bool.eq_false_iff.mpr c23
       subst c23
       replace H : (some (wrap64 (t138), false)) = some (r1, r2) := by rw [if_neg (show ¬ (false = true) by decide)] at H; exact H
       simp only [Option.some.injEq, Prod.mk.injEq] at H
       obtain ⟨rfl, rfl⟩ := H
       go_enter Tryz.func32, Tryz.ntmps32
       go_wp2_with (first | ((with_reducible refine gate_callee (f := 58) rfl ?_); refine goesL_ (some 14) rfl rfl Tryz.func58 zb15 rfl #[.string a0, .string (⟨#[48, 49, 50, 51, 52, 53, 54, 55, 56, 57, 97, 98, 99, 100, 101, 102, 65, 66, 67, 68, 69, 70]⟩ : ByteArray)] rfl zb1 ?_; (with_reducible refine (strings_TrimLeft.calls a0 (⟨#[48, 49, 50, 51, 52, 53, 54, 55, 56, 57, 97, 98, 99, 100, 101, 102, 65, 66, 67, 68, 69, 70]⟩ : ByteArray) t131 _ A2.out).mono ?_); rintro e w30 ⟨rfl, hb⟩; refine ⟨_, rfl, ?_⟩; have n0_ := Aside0.mk (below_step zb0 hb); clear HB; have HB := n0_; clear n0_; (try clear hb); (try clear hb2); (try clear hk); (try clear hi)) | ((with_reducible refine gate_dst (N := 5) rfl ?_); (try (refine gate_guard (by rfl) ?_; dsimp only)); refine box_event ?hg (N := 5) ?hd (cs := #[.string (⟨#[]⟩ : ByteArray)]) (t := 90) ?hr ?_; (case hd => rfl); (case hg => rfl); (case hr => first | (go_simp; done) | (go_simp; rfl)); intro gb132 hg w31 hbox hb; have n0_ := Aside0.mk (below_step zb0 hb); have n1_ := Aside0.mk ((by rw [hg]; exact (below_size zb0) : w.heap.size ≤ gb132)); have n2_ := Aside0.mk ((by rw [hg]; exact (below_size zb0) : w.heap.size ≤ gb132)); have n3_ := Aside0.mk ((show IsS90 w w31 gb132 (⟨#[]⟩ : ByteArray) from ⟨hbox, zb40⟩)); clear HB; have HB := n0_; have GW132 := n1_; have GE132 := n2_; have HI132 := n3_; clear n0_ n1_ n2_ n3_; clear hb hbox hg; obtain ⟨HGz32, hgz32⟩ := HI132.out; have hcz32_0 := cellS90_0 HGz32; have hfz32_0 := blk_frozen HGz32 0; clear HGz32 hgz32) | ((with_reducible refine gate_callee (f := 59) rfl ?_); refine goesL_ (some 23) rfl rfl Tryz.func59 zb15 rfl #[.pointer (some ⟨gb132, 0, none⟩)] rfl zb1 ?_; (with_reducible refine (media_Text_Params.calls k gb132 (a0.extract (max ji3 0).toNat a0.size) t133 false t137 w _ ?side1 ?side2 A8.out).mono ?_); (case side1 => repeat (first | (with_reducible first | exact HI132.out | apply IsS90.alloc | apply IsS90.drewN | apply IsS90.drew | apply IsS90.set_0) | exact HI132.out)); (case side2 => repeat (first | (with_reducible first | exact HB.out | apply below_alloc | apply pw_below_drewN | apply below_drew1 | refine below_set ?_ (IsS90.ge HI132.out)) | exact HB.out)); rintro e w33 ⟨v134, rfl, ho0, hi, hb, hk⟩; refine ⟨_, rfl, ?_⟩; have n0_ := Aside0.mk (Kd.R_lower ho0 (below_size zb8)); have n1_ := Aside0.mk (hb); have n2_ := Aside0.mk (hi); clear HB; clear HI132; have HO135 := n0_; have HB := n1_; have HI132 := n2_; clear n0_ n1_ n2_; (try clear hb); (try clear hb2); (try clear hk); (try clear hi); (try clear ho0)) | ((with_reducible refine gate_callee (f := 47) rfl ?_); refine goesL_ (some 28) rfl rfl Tryz.func47 zb15 rfl #[.string (a0.extract 0 ((ji3) : Int).toNat), .int .i64 16, .int .i64 64] rfl zb30 ?_; (with_reducible refine (strconv_ParseUint.calls (a0.extract 0 ((ji3) : Int).toNat) 16 64 t138 (some q140) _ ?side1 A9.out).mono ?_); (case side1 => exact Glob.below hGA.out zb8); rintro e w34 ⟨pv35, hpv35, rfl, hb⟩; refine ⟨_, rfl, ?_⟩; obtain ⟨tpv35, ppv35, rfl⟩ := ErrIs.some_ hpv35; have n0_ := Aside0.mk (Kd.R_below zb38 hb); have n1_ := Aside0.mk (IsS90.below zb32 hb); have n2_ := Aside0.mk (below_step zb8 hb); clear HO135; clear HI132; clear HB; have HO135 := n0_; have HI132 := n1_; have HB := n2_; clear n0_ n1_ n2_; (try clear hb); (try clear hb2); (try clear hk); (try clear hi); (try simp only [errW_none, errW_some])))
       go_ret2
       exact ⟨by first | rfl | (rw [e81.out]; rfl) | (rw [e81.out]; simp; done) | (simp [errW_none, errW_some, bne_nil_] <;> rfl) | (simp only [← hji3]; first | rfl | (simp [errW_none, errW_some, bne_nil_] <;> rfl)) | (simp [*, errW_none, errW_some] <;> rfl), zb8⟩
    ·rw [if_neg c7] at H
     exact absurd H zb25
   ·rw [if_neg c6] at H
    exact absurd H zb25
  ·rw [if_neg c5] at H
   exact absurd H zb25
 ·rw [if_neg c4] at H
  exact absurd H zb25
end Go.Proofs.YteonhdfjfjpbjaaGreatDoor.P
/- Px11 -/
namespace Go.Proofs.YteonhdfjfjpbjaaGreatDoor.P
open Go.Proofs.YteonhdfjfjpbjaaGreatDoor.B
open Go.RowKit Go.Proofs.YteonhdfjfjpbjaaGreatDoorW.PrintWords Go.Proofs.YteonhdfjfjpbjaaGreatDoorW.PrintLast Go.Proofs.YteonhdfjfjpbjaaGreatDoorW.PrintMore
attribute [local go_sem] str_leq str_gtr str_geq max2_int min2_int max_two min_two max_three min_three max_four min_four
set_option linter.unusedVariables false
set_option linter.unusedSimpArgs false
def chunk_part.f (a0 : ByteArray) (a1 : Int) (a2 : Int) : Option (ByteArray × ByteArray × Int) := if a1 > (wrap64 (100000 - a2)) then (some ((⟨#[]⟩ : ByteArray), (⟨#[]⟩ : ByteArray), 2)) else (if (a0.size : Int) < a1 then (some ((⟨#[]⟩ : ByteArray), (⟨#[]⟩ : ByteArray), 190)) else (if 0 ≤ a1 then (if a1 ≤ (a0.size : Int) then ((strings_CutPrefix.f (a0.extract (a1 : Int).toNat a0.size) (⟨#[13, 10]⟩ : ByteArray)).bind fun bt141 => (if bt141.2 = true then (some (a0.extract 0 (a1 : Int).toNat, bt141.1, 0)) else (some ((⟨#[]⟩ : ByteArray), (⟨#[]⟩ : ByteArray), 190)))) else (none)) else (none)))
set_option maxHeartbeats 8000000 in
set_option maxRecDepth 100000 in
theorem chunk_part.calls (a0 : ByteArray) (a1 : Int) (a2 : Int) (r1 : ByteArray) (r2 : ByteArray) (r3 : Int) (w : World) (h : chunk_part.f a0 a1 a2 = some (r1, r2, r3)) :
  Calls Tryz.prog 33 #[.string a0, .int .i64 a1, .int .i64 a2] w fun e w' => e = .returned (.tuple #[.string r1, .string r2, .int .i64 r3]) ∧ Drawn0 w w' := by
 have H : (if a1 > (wrap64 (100000 - a2)) then (some ((⟨#[]⟩ : ByteArray), (⟨#[]⟩ : ByteArray), 2)) else (if (a0.size : Int) < a1 then (some ((⟨#[]⟩ : ByteArray), (⟨#[]⟩ : ByteArray), 190)) else (if 0 ≤ a1 then (if a1 ≤ (a0.size : Int) then ((strings_CutPrefix.f (a0.extract (a1 : Int).toNat a0.size) (⟨#[13, 10]⟩ : ByteArray)).bind fun bt141 => (if bt141.2 = true then (some (a0.extract 0 (a1 : Int).toNat, bt141.1, 0)) else (some ((⟨#[]⟩ : ByteArray), (⟨#[]⟩ : ByteArray), 190)))) else (none)) else (none)))) = some (r1, r2, r3) := h
 clear h
 by_cases c4 : a1 > (wrap64 (100000 - a2))
 ·rw [if_pos c4] at H
  have c4b0 : decide ((wrap64 (100000 - a2)) < a1) = true := decide_eq_true c4
  clear c4
  simp only [Option.some.injEq, Prod.mk.injEq] at H
  obtain ⟨rfl, rfl, rfl⟩ := H
  go_enter Tryz.func33, Tryz.ntmps33
  go_wp2
  go_ret3
  exact ⟨by first | rfl | (simp; done) | (simp [*]; done), by repeat (first | exact Drawn0.refl _ | apply Drawn0.step)⟩
 ·rw [if_neg c4] at H
  have c4b0 : decide ((wrap64 (100000 - a2)) < a1) = false := decide_eq_false c4
  clear c4
  by_cases c5 : (a0.size : Int) < a1
  ·rw [if_pos c5] at H
   have c5b0 : decide ((a0.size : Int) < a1) = true := decide_eq_true c5
   clear c5
   simp only [Option.some.injEq, Prod.mk.injEq] at H
   obtain ⟨rfl, rfl, rfl⟩ := H
   go_enter Tryz.func33, Tryz.ntmps33
   go_wp2
   go_ret3
   exact ⟨by first | rfl | (simp; done) | (simp [*]; done), by repeat (first | exact Drawn0.refl _ | apply Drawn0.step)⟩
  ·rw [if_neg c5] at H
   have c5b0 : decide ((a0.size : Int) < a1) = false := decide_eq_false c5
   clear c5
   by_cases c6 : 0 ≤ a1
   ·rw [if_pos c6] at H
    have c6b0 := eq_true c6
    have c6b1 : decide (0 ≤ a1) = true := decide_eq_true c6
    clear c6
    by_cases c7 : a1 ≤ (a0.size : Int)
    ·rw [if_pos c7] at H
     have c7b0 := eq_true c7
     have c7b1 : decide (a1 ≤ (a0.size : Int)) = true := decide_eq_true c7
     clear c7
     replace H := Option.bind_eq_some_iff.mp H
     obtain ⟨⟨t141, t142⟩, A80, H⟩ := H
     replace H : (if t142 = true then (some (a0.extract 0 (a1 : Int).toNat, t141, 0)) else (some ((⟨#[]⟩ : ByteArray), (⟨#[]⟩ : ByteArray), 190))) = some (r1, r2, r3) := H
     have A8 := Aside0.mk A80
     clear A80
     by_cases c9 : t142 = true
     ·subst c9
      replace H : (some (a0.extract 0 (a1 : Int).toNat, t141, 0)) = some (r1, r2, r3) := by rw [if_pos rfl] at H; exact H
      have c10b0 := eq_true (of_decide_eq_true zb2 : 0 ≤ a1)
      have c11b0 := eq_true (of_decide_eq_true zb2 : a1 ≤ (a0.size : Int))
      simp only [Option.some.injEq, Prod.mk.injEq] at H
      obtain ⟨rfl, rfl, rfl⟩ := H
      go_enter Tryz.func33, Tryz.ntmps33
      go_wp2_with (first | ((with_reducible refine gate_callee (f := 60) rfl ?_); refine goesL_ (some 22) rfl rfl Tryz.func60 zb15 rfl #[.string (a0.extract (a1 : Int).toNat a0.size), .string (⟨#[13, 10]⟩ : ByteArray)] rfl zb1 ?_; (with_reducible refine (strings_CutPrefix.calls (a0.extract (a1 : Int).toNat a0.size) (⟨#[13, 10]⟩ : ByteArray) t141 true _ A8.out).mono ?_); rintro e w' ⟨rfl, ⟨nd, rfl⟩⟩; refine ⟨_, rfl, ?_⟩))
      go_ret3
      exact ⟨by first | rfl | (simp; done) | (simp [*]; done), by repeat (first | exact Drawn0.refl _ | apply Drawn0.step)⟩
     ·replace c9 := Bool.eq_false_iff.mpr c9
      subst c9
      replace H : (some ((⟨#[]⟩ : ByteArray), (⟨#[]⟩ : ByteArray), 190)) = some (r1, r2, r3) := by rw [if_neg (show ¬ (false = true) by decide)] at H; exact H
      simp only [Option.some.injEq, Prod.mk.injEq] at H
      obtain ⟨rfl, rfl, rfl⟩ := H
      go_enter Tryz.func33, Tryz.ntmps33
      go_wp2_with (first | ((with_reducible refine gate_callee (f := 60) rfl ?_); refine goesL_ (some 22) rfl rfl Tryz.func60 zb15 rfl #[.string (a0.extract (a1 : Int).toNat a0.size), .string (⟨#[13, 10]⟩ : ByteArray)] rfl zb1 ?_; (with_reducible refine (strings_CutPrefix.calls (a0.extract (a1 : Int).toNat a0.size) (⟨#[13, 10]⟩ : ByteArray) t141 false _ A8.out).mono ?_); rintro e w' ⟨rfl, ⟨nd, rfl⟩⟩; refine ⟨_, rfl, ?_⟩))
      go_ret3
      exact ⟨by first | rfl | (simp; done) | (simp [*]; done), by repeat (first | exact Drawn0.refl _ | apply Drawn0.step)⟩
    ·rw [if_neg c7] at H
     exact absurd H zb25
   ·rw [if_neg c6] at H
    exact absurd H zb25
end Go.Proofs.YteonhdfjfjpbjaaGreatDoor.P
/- Ofld -/
namespace Go.Proofs.YteonhdfjfjpbjaaGreatDoor.O
open Go.RowKit Go.Shelf Go.Proofs.YteonhdfjfjpbjaaGreatDoorW.PrintWords Go.Proofs.YteonhdfjfjpbjaaGreatDoorW.PrintLast Go.Proofs.YteonhdfjfjpbjaaGreatDoorW.PrintMore Go.Proofs.YteonhdfjfjpbjaaGreatDoor.P Go.Proofs.YteonhdfjfjpbjaaGreatDoor.Sp
attribute [local go_sem] Oper.semAt_some
set_option linter.unusedVariables false
set_option linter.unusedSimpArgs false
def flatV (l : List (Sp.L × Sp.L)) : List Value := l.flatMap fun p => [.string (Sp.mk p.1), .string (Sp.mk p.2)]
def fieldsB (s : ByteArray) : List S49 × ByteArray × Int := (pairsB (Sp.fields s.data.toList).1, Sp.mk (Sp.fields s.data.toList).2.1, (Sp.fields s.data.toList).2.2)
def field_Parse.f (a0 : ByteArray) : Option (List S49 × ByteArray × Int) := if a0.size < 4294967281 then some (fieldsB a0) else none
theorem flat_reps (w : World) (base : Nat) (ok : Nat → Prop) : ∀ l, Reps (k49.M w base ok) 2 (pairsB l) (flatV l)
  | [] => Reps.none _ _
  | p :: l => by
    have h1 : Reps (k49.M w base ok) 2 ([] ++ [⟨Sp.mk p.1, Sp.mk p.2⟩]) ([] ++ [.string (Sp.mk p.1), .string (Sp.mk p.2)]) := (Reps.none _ _).snoc (k49_mkM w base ok _) rfl
    exact Kd.reps_append h1 (flat_reps w base ok l)
theorem flat_row {w : World} {base : Nat} {v : Value} {l : List (Sp.L × Sp.L)} (h : w.ownsRow base 49 2 v l.length (flatV l)) : Kd.R k49 49 w base (fun _ => True) v (pairsB l) :=
  ⟨fun _ _ => trivial, flatV l, by rw [show (pairsB l).length = l.length from by simp [pairsB]]; exact h, flat_reps _ _ _ l⟩
theorem lines_in (n : Nat) (s : ByteArray) (w : World) : CallsIn Fence.wide n Tryz.prog 61 #[.string s] w fun e w' => e = .returned (.func (.func 97) #[] #[.pointer (some ⟨w.heap.size, 0, none⟩)]) ∧ w' = w.alloc (.cells #[.string s] 9) := by
  refine callsIn_of_wp Tryz.func61 rfl trivial ?_ rfl
  simp only [Tryz.ntmps61, List.size_toArray, List.length_cons, List.length_nil, Nat.reduceAdd, Nat.reduceSub, Array.replicate_succ, Array.replicate_zero, List.push_toArray, List.append_toArray, List.nil_append, List.cons_append]
  gi_wp2
  go_ret
  exact ⟨rfl, rfl⟩
/-- What lies between two rounds. N: the whole text's length; R: what the parser comes to. -/
structure Between (w : World) (a0 : ByteArray) (R : List (Sp.L × Sp.L) × Sp.L × Int) (cur : ByteArray) (W : World) : Prop where
  row : ∃ f acc v, Sp.fparse a0.size f cur.data.toList acc = R ∧ cur.size < f ∧ acc.length + cur.size ≤ a0.size ∧ Boxed W (w.heap.size + 1) 34 v ∧ W.ownsRow w.heap.size 49 2 v acc.length (flatV acc)
  s : Boxed W w.heap.size 9 (.string a0)
  rest : Boxed W (w.heap.size + 2) 9 (.string ⟨#[]⟩)
  e : Boxed W (w.heap.size + 3) 24 (.int .i64 0)
  it : ∃ u, Boxed W (w.heap.size + 4) 9 u
  bel : Below w.heap.size w W
/-- How the rounds were left. -/
structure Left (w : World) (a0 : ByteArray) (R : List (Sp.L × Sp.L) × Sp.L × Int) (c : Code) (W : World) : Prop where
  how : (c = .exit 0 ∧ R = ([], [], if a0.size > 8000 then 2 else 180) ∧ (∃ v, Boxed W (w.heap.size + 1) 34 v) ∧ Boxed W (w.heap.size + 2) 9 (.string ⟨#[]⟩) ∧ Boxed W (w.heap.size + 3) 24 (.int .i64 0)) ∨
    (c = .ret ∧ (∃ v, Boxed W (w.heap.size + 1) 34 v ∧ W.ownsRow w.heap.size 49 2 v R.1.length (flatV R.1)) ∧ Boxed W (w.heap.size + 2) 9 (.string (Sp.mk R.2.1)) ∧ Boxed W (w.heap.size + 3) 24 (.int .i64 R.2.2))
  s : Boxed W w.heap.size 9 (.string a0)
  bel : Below w.heap.size w W
theorem Between.own (w : World) (a0 : ByteArray) (R) : OwnFrom (w.heap.size + 5) (Between w a0 R) := by
  intro cur W W' row h hg hr
  have kb : ∀ {B t v}, Boxed W B t v → B < w.heap.size + 5 → Boxed W' B t v := fun hb hlt => hb.kept hg (fun e => by have := (hr _ e.symm).1; omega)
  obtain ⟨⟨f, acc, v, h1, h2, h3, h4, h5⟩, hs, hrest, he, ⟨u, hit⟩, hbel⟩ := h
  refine ⟨⟨f, acc, v, h1, h2, h3, kb h4 zb17, ?_⟩, kb hs zb17, kb hrest zb17, kb he zb17, ⟨u, kb hit zb17⟩, hbel.grown hg hbel.size (fun k e => by have := (hr k e).1; omega)⟩
  refine own_move h5 (fun k hk => hg.block k (own_lt h5 k hk) (fun e => ?_))
  obtain ⟨o, ho, hc⟩ := (hr k e.symm).2
  obtain ⟨cells, hcell⟩ := own_typed h5 k hk
  rw [hcell] at ho
  injection ho with ho
  subst ho
  simp [Obj.isCells] at hc
theorem Left.own (w : World) (a0 : ByteArray) (R) : OwnFrom (w.heap.size + 5) (Left w a0 R) := by
  intro c W W' row h hg hr
  have kb : ∀ {B t v}, Boxed W B t v → B < w.heap.size + 5 → Boxed W' B t v := fun hb hlt => hb.kept hg (fun e => by have := (hr _ e.symm).1; omega)
  obtain ⟨hh, hs, hbel⟩ := h
  refine ⟨?_, kb hs zb17, hbel.grown hg hbel.size (fun k e => by have := (hr k e).1; omega)⟩
  rcases hh with ⟨e1, e2, ⟨v, hv⟩, h2, h3⟩ | ⟨e1, ⟨v, hv, h5⟩, h2, h3⟩
  · exact .inl ⟨e1, e2, ⟨v, kb hv zb17⟩, kb h2 zb17, kb h3 zb17⟩
  · refine .inr ⟨e1, ⟨v, kb hv zb17, ?_⟩, kb h2 zb17, kb h3 zb17⟩
    refine own_move h5 (fun k hk => hg.block k (own_lt h5 k hk) (fun e => ?_))
    obtain ⟨o, ho, hc⟩ := (hr k e.symm).2
    obtain ⟨cells, hcell⟩ := own_typed h5 k hk
    rw [hcell] at ho
    injection ho with ho
    subst ho
    simp [Obj.isCells] at hc
theorem Between.stays (w : World) (a0 : ByteArray) (R) (cur : ByteArray) : Stays (w.heap.size + 4) (Between w a0 R cur) := by
  constructor
  · intro W x h
    obtain ⟨⟨f, acc, v, h1, h2, h3, h4, h5⟩, hs, hrest, he, ⟨u, hit⟩, hbel⟩ := h
    refine ⟨⟨f, acc, v, h1, h2, h3, h4.other zb17 _, ?_⟩, hs.other zb17 _, hrest.other zb17 _, he.other zb17 _, ⟨x, hit.set x⟩, hbel.setCell (p := ⟨w.heap.size + 4, 0, none⟩) (by show w.heap.size ≤ w.heap.size + 4; omega) x⟩
    refine own_move h5 (fun k hk => Below.heap_setCell W _ x k (fun e => ?_))
    obtain ⟨cells, hcell⟩ := own_typed h5 k hk
    have hB : W.heap[w.heap.size + 4]? = some (.cells #[u] 9 (0, 0)) := hit
    rw [e, hB] at hcell
    injection hcell with hcell
    injection hcell with _ h9 _
    revert h9
    decide
  · intro W k h
    obtain ⟨hrow, hs, hrest, he, hit, hbel⟩ := h
    exact ⟨hrow, hs, hrest, he, hit, ⟨hbel.1, hbel.2, hbel.3, hbel.4, hbel.5⟩⟩
theorem line_of {cur x y : ByteArray} (h : lineB cur = some (x, y)) : Sp.line cur.data.toList = some (x.data.toList, y.data.toList) := by
  unfold lineB at h
  cases e : Sp.line cur.data.toList with
  | none => rw [e] at h; simp at h
  | some p =>
    rw [e] at h
    simp only [Option.map_some, Option.some.injEq, Prod.mk.injEq] at h
    obtain ⟨rfl, rfl⟩ := h
    rfl
theorem fparse_step (N f : Nat) (cur x y : ByteArray) (acc : List (Sp.L × Sp.L)) (h : lineB cur = some (x, y)) : Sp.fparse N (f + 1) cur.data.toList acc =
    if N - y.size > 8000 then ([], [], if N > 8000 then 2 else 180) else if x.data.toList = [] then (acc, y.data.toList, 0) else if (Sp.pairP x.data.toList).2.2 = true then Sp.fparse N f y.data.toList (acc ++ [((Sp.pairP x.data.toList).1, (Sp.pairP x.data.toList).2.1)]) else ([], [], 180) := by
  rw [Sp.fparse, line_of h]
  simp only
  rw [← Lib.size_eq, Sp.pairP_eq]
  by_cases h1 : N - y.size > 8000
  · rw [if_pos h1, if_pos h1]
  · rw [if_neg h1, if_neg h1]
    by_cases h2 : x.data.toList = []
    · rw [if_pos h2, if_pos h2]
    · rw [if_neg h2, if_neg h2]
      cases h3 : (Sp.pairP x.data.toList).2.2 <;> simp
theorem fparse_stop (N f : Nat) (cur : ByteArray) (acc : List (Sp.L × Sp.L)) (h : lineB cur = none) : Sp.fparse N (f + 1) cur.data.toList acc = ([], [], if N > 8000 then 2 else 180) := by
  have e : Sp.line cur.data.toList = none := by
    unfold lineB at h
    cases e : Sp.line cur.data.toList with
    | none => rfl
    | some p => rw [e] at h; simp at h
  rw [Sp.fparse, e]
theorem bx_below {W W1 : World} {B : Nat} {t : TypeId} {v : Value} (h : Boxed W B t v) (hb : Below W.heap.size W W1) : Boxed W1 B t v := (hb.block B h.lt).trans h
theorem bx_set {W : World} {B : Nat} {t : TypeId} {v : Value} (h : Boxed W B t v) (p : Addr) (hne : B ≠ p.block) (x : Value) : Boxed (W.setCell p x) B t v := (Below.heap_setCell W p x B hne).trans h
theorem keeps_below {W W1 : World} (hb : Below W.heap.size W W1) (N : Nat) : KeepsFrom N W W1 := ⟨hb.size, fun k o _ hk _ => (hb.block k (Array.getElem?_eq_some_iff.1 hk).1).trans hk⟩
theorem row_below {W W1 : World} {base k : Nat} {e : TypeId} {v : Value} {xs : List Value} (h : W.ownsRow base e 2 v k xs) (hb : Below W.heap.size W W1) : W1.ownsRow base e 2 v k xs := own_move h (fun j hj => hb.block j (own_lt h j hj))
theorem cells_two (w : World) (o : Obj) (x y : Value) : ∀ (j : Nat) u, [x, y][j]? = some u → ((w.alloc o).alloc (.cells #[x, y] 49)).cell? ((⟨w.heap.size + 1, 0, none⟩ : Addr).add j) = some u := by
  intro j u hj
  have e : w.heap.size + 1 = (w.alloc o).heap.size := (World.size_alloc _ _).symm
  match j, hj with
  | 0, hj =>
    simp at hj
    subst hj
    rw [e]
    simp [Addr.add]
  | 1, hj =>
    simp at hj
    subst hj
    rw [e]
    simp [Addr.add]
theorem own_slice {W : World} {base k : Nat} {e : TypeId} {v : Value} {xs : List Value} (h : W.ownsRow base e 2 v k xs) : ∃ A c, v = .slice A k c := by
  rcases h.2 with ⟨rfl, rfl⟩ | ⟨g, cap, cur, rfl, _⟩
  · exact ⟨none, 0, rfl⟩
  · exact ⟨_, cap, rfl⟩
theorem row_far {W : World} {base k B : Nat} {t : TypeId} {u x v : Value} {xs : List Value} (h : W.ownsRow base 49 2 v k xs) (hb : Boxed W B t u) (ht : t ≠ 49) : (W.setCell ⟨B, 0, none⟩ x).ownsRow base 49 2 v k xs := by
  refine own_move h (fun j hj => Below.heap_setCell W _ x j (fun e => ?_))
  obtain ⟨cells, hcell⟩ := own_typed h j hj
  have hB : W.heap[B]? = some (.cells #[u] t (0, 0)) := hb
  rw [e, hB] at hcell
  injection hcell with hcell
  injection hcell with _ h9 _
  exact ht h9
theorem row_set3 {w W : World} {k : Nat} {v u1 u2 u3 x1 x2 x3 : Value} {xs : List Value} (h : W.ownsRow w.heap.size 49 2 v k xs) (h1 : Boxed W (w.heap.size + 1) 34 u1) (h2 : Boxed W (w.heap.size + 2) 9 u2) (h3 : Boxed W (w.heap.size + 3) 24 u3) :
    (((W.setCell ⟨w.heap.size + 1, 0, none⟩ x1).setCell ⟨w.heap.size + 2, 0, none⟩ x2).setCell ⟨w.heap.size + 3, 0, none⟩ x3).ownsRow w.heap.size 49 2 v k xs :=
  row_far (row_far (row_far h h1 zb20) (h2.other zb17 _) zb20) ((h3.other zb17 _).other zb17 _) zb20
theorem parse_leaves {tmps : Array Value} {w W : World} {D : Nat} {v : Value} {a0 r2 : ByteArray} {r3 : Int} {l : List (Sp.L × Sp.L)} {o : Option (List Deferred)} {F : List (Sp.L × Sp.L) × Sp.L × Int}
    (t2 : tmps[2]? = some (.pointer (some ⟨w.heap.size + 1, 0, none⟩))) (t3 : tmps[3]? = some (.pointer (some ⟨w.heap.size + 2, 0, none⟩))) (t4 : tmps[4]? = some (.pointer (some ⟨w.heap.size + 3, 0, none⟩)))
    (hK : W.heap[D]? = some (.deferred o)) (hv : Boxed W (w.heap.size + 1) 34 v) (hr : Boxed W (w.heap.size + 2) 9 (.string r2)) (he : Boxed W (w.heap.size + 3) 24 (.int .i64 r3))
    (hrow : W.ownsRow w.heap.size 49 2 v l.length (flatV l)) (hbel : Below w.heap.size w W) (hD : w.heap.size + 5 ≤ D) (hF : Sp.fields a0.data.toList = F) (hF2 : (l, r2, r3) = (F.1, Sp.mk F.2.1, F.2.2)) :
    LeavesInM Fence.wide 10 Tryz.prog Tryz.f35 tmps (fun e w' => ∃ v0_ : Value, e = .returned (.tuple #[v0_, .string (fieldsB a0).2.1, .int .i64 (fieldsB a0).2.2]) ∧ Kd.R k49 49 w' w.heap.size (fun _ => True) v0_ (fieldsB a0).1 ∧ Below w.heap.size w w') [] .returning (W.putObj D (.deferred none)) := by
  have g := grownBy_putObj' W D (.deferred none)
  have kb : ∀ {B t u}, Boxed W B t u → B < w.heap.size + 5 → Boxed (W.putObj D (.deferred none)) B t u := fun hb hlt => hb.kept g (fun e => by have := Option.some.inj e; omega)
  have c1 := (kb hv zb17).cell
  have c2 := (kb hr zb17).cell
  have c3 := (kb he zb17).cell
  have e : fieldsB a0 = (pairsB l, r2, r3) := by
    unfold fieldsB
    rw [hF]
    obtain ⟨rfl, h2⟩ := Prod.mk.inj hF2
    obtain ⟨rfl, rfl⟩ := Prod.mk.inj h2
    rfl
  rw [e]
  refine ⟨.tuple #[v, .string r2, .int .i64 r3], ?_, v, rfl, flat_row ?_, ?_⟩
  · simp [results, Tryz.f35, go_sem, t2, t3, t4, c1, c2, c3]
  · refine own_move hrow (fun k hk => g.block k (own_lt hrow k hk) (fun e2 => ?_))
    obtain ⟨cells, hcell⟩ := own_typed hrow k hk
    obtain rfl := Option.some.inj e2
    rw [hK] at hcell
    cases hcell
  · exact hbel.grown g hbel.size (fun k ek => by have := Option.some.inj ek; omega)
set_option maxRecDepth 100000 in
set_option maxHeartbeats 4000000 in
theorem parse_in (a0 : ByteArray) (w : World) (hG : Glob w) (hs : a0.size < 4294967281) :
    Calls Tryz.prog 35 #[.string a0] w fun e w' => ∃ v0_ : Value, e = .returned (.tuple #[v0_, .string (fieldsB a0).2.1, .int .i64 (fieldsB a0).2.2]) ∧ Kd.R k49 49 w' w.heap.size (fun _ => True) v0_ (fieldsB a0).1 ∧ Below w.heap.size w w' := by
  obtain ⟨i0, hi, hz0, hz1', hz2⟩ := info_parts info49
  refine (callsIn_wide (n := 10)).1 ?_
  have hfl : Fence.wide.fn 61 := trivial
  have hn10 : 1 ≤ 10 := by omega
  refine callsIn_of_wp_marks Tryz.func35 rfl trivial ?_ rfl
  simp only [Tryz.ntmps35, List.size_toArray, List.length_cons, List.length_nil, Nat.reduceAdd, Nat.reduceSub, Array.replicate_succ, Array.replicate_zero, List.push_toArray, List.append_toArray, List.nil_append, List.cons_append]
  gi_wp2_with (gi_at_call 61; refine (lines_in _ _ _).mono ?_; rintro e w' ⟨rfl, rfl⟩)
  simp only [Nat.add_assoc, Nat.reduceAdd]
  obtain ⟨R, hR⟩ : ∃ R, R = Sp.fields a0.data.toList := ⟨_, rfl⟩
  have hbox0 : Boxed ((((((w.alloc (Obj.cells #[Value.string a0] 9)).alloc (Obj.cells #[Value.slice none 0 0] 34)).alloc (Obj.cells #[Value.string ⟨#[]⟩] 9)).alloc (Obj.cells #[Value.int IntKind.i64 0] 24)).alloc (Obj.cells #[Value.string a0] 9))) (w.heap.size + 4) 9 (.string a0) := by
    have := Boxed.new ((((w.alloc (Obj.cells #[Value.string a0] 9)).alloc (Obj.cells #[Value.slice none 0 0] 34)).alloc (Obj.cells #[Value.string ⟨#[]⟩] 9)).alloc (Obj.cells #[Value.int IntKind.i64 0] 24)) 9 (.string a0)
    simpa only [World.size_alloc, Nat.add_assoc, Nat.reduceAdd] using this
  have hbt : Between w a0 R a0 ((((((w.alloc (Obj.cells #[Value.string a0] 9)).alloc (Obj.cells #[Value.slice none 0 0] 34)).alloc (Obj.cells #[Value.string ⟨#[]⟩] 9)).alloc (Obj.cells #[Value.int IntKind.i64 0] 24)).alloc (Obj.cells #[Value.string a0] 9))) := by
    have p0 := Boxed.new w 9 (.string a0)
    have p1 := Boxed.new (w.alloc (Obj.cells #[Value.string a0] 9)) 34 (.slice none 0 0)
    have p2 := Boxed.new ((w.alloc (Obj.cells #[Value.string a0] 9)).alloc (Obj.cells #[Value.slice none 0 0] 34)) 9 (.string ⟨#[]⟩)
    have p3 := Boxed.new (((w.alloc (Obj.cells #[Value.string a0] 9)).alloc (Obj.cells #[Value.slice none 0 0] 34)).alloc (Obj.cells #[Value.string ⟨#[]⟩] 9)) 24 (.int .i64 0)
    simp only [World.size_alloc, Nat.add_assoc, Nat.reduceAdd] at p1 p2 p3
    refine ⟨⟨a0.data.toList.length + 1, [], _, ?_, ?_, ?_, ((p1.alloc _).alloc _).alloc _, World.ownsRow_nil _ _ _ _⟩, (((p0.alloc _).alloc _).alloc _).alloc _, (p2.alloc _).alloc _, p3.alloc _, ⟨_, hbox0⟩, ?_⟩
    · rw [hR, Lib.size_eq]; rfl
    · rw [Lib.size_eq]; omega
    · simp
    · exact ((((((Below.refl _ w).alloc (Nat.le_refl _) _).alloc zb25 _).alloc (by simp; omega) _).alloc (by simp; omega) _).alloc (by simp; omega) _)
  have hsz5 : ((((((w.alloc (Obj.cells #[Value.string a0] 9)).alloc (Obj.cells #[Value.slice none 0 0] 34)).alloc (Obj.cells #[Value.string ⟨#[]⟩] 9)).alloc (Obj.cells #[Value.int IntKind.i64 0] 24)).alloc (Obj.cells #[Value.string a0] 9))).heap.size = w.heap.size + 5 := by simp only [World.size_alloc]
  generalize ((((((w.alloc (Obj.cells #[Value.string a0] 9)).alloc (Obj.cells #[Value.slice none 0 0] 34)).alloc (Obj.cells #[Value.string ⟨#[]⟩] 9)).alloc (Obj.cells #[Value.int IntKind.i64 0] 24)).alloc (Obj.cells #[Value.string a0] 9))) = W0 at *
  have hbt' := Lib.hid hbt
  have hbox' := Lib.hid hbox0
  have hsz' := Lib.hid hsz5
  have hR' := Lib.hid hR
  clear hbt hbox0 hR hsz5
  refine range_lines (F := Fence.wide) (n := 10) rfl zb17 (gf := 97) (lb := #[.pointer (some ⟨w.heap.size + 4, 0, none⟩)]) rfl trivial (enters_of Tryz.func97 zb15 rfl)
    (lines_stops 9 zb17 (w.heap.size + 4) a0 W0 hs (by rw [hsz'.out]; omega) hbox'.out) (by rw [hsz'.out]; omega) rfl
    (Between w a0 R) (Left w a0 R) (by rw [hsz'.out]; exact Between.own w a0 R) (by rw [hsz'.out]; exact Left.own w a0 R) (Between.stays w a0 R) (fun c W h => hG.below h.bel) hbt'.out
    (fun x y => { tmps := #[Value.string a0, Value.pointer (some { block := w.heap.size, off := 0 }), Value.pointer (some { block := w.heap.size + 1, off := 0 }), Value.pointer (some { block := w.heap.size + 2, off := 0 }), Value.pointer (some { block := w.heap.size + 3, off := 0 }), .string x, .string y, undef, undef, Value.string a0, Value.func (Fn.func 97) #[] #[Value.pointer (some { block := w.heap.size + 4, off := 0 })], .string x, .string y, undef, undef, undef, undef, undef, undef, undef, undef, undef, undef, undef, undef, undef, undef, undef, undef, undef, undef, undef, undef, undef, undef, undef, undef], defers := [] }) ?assign ?body ?done ?stop
  case assign =>
    intro l x y W K hK
    gi_wp2
    exact hK
  case body =>
    intro l cur x y W hb hline
    obtain ⟨⟨f, acc, v, hf, hcf, hlen, hv, hrow⟩, hsb, hrb, heb, hib, hbel⟩ := hb
    have hsz := lineB_size cur x y hline
    obtain ⟨f, rfl⟩ : ∃ f', f = f' + 1 := ⟨f - 1, by omega⟩
    obtain ⟨A, c, rfl⟩ := own_slice hrow
    have hstep := fparse_step a0.size f cur x y acc hline
    rw [hf] at hstep
    have hya : y.size ≤ a0.size := by omega
    have hya2 : (y.size : Int) ≤ (a0.size : Int) := by omega
    have hc0 := hsb.cell
    have hcl := hv.cell
    have hcr := hrb.cell
    have hce := heb.cell
    have hfl := hv.frozen
    have hfr := hrb.frozen
    have hfe := heb.frozen
    have hWk := Lib.hid (⟨hsb, hrb, heb, hib, hbel, hv, hrow⟩ : Boxed W w.heap.size 9 (.string a0) ∧ Boxed W (w.heap.size + 2) 9 (.string ⟨#[]⟩) ∧ Boxed W (w.heap.size + 3) 24 (.int .i64 0) ∧ (∃ u, Boxed W (w.heap.size + 4) 9 u) ∧ Below w.heap.size w W ∧ Boxed W (w.heap.size + 1) 34 (.slice A acc.length c) ∧ W.ownsRow w.heap.size 49 2 (.slice A acc.length c) acc.length (flatV acc))
    clear hsb hrb heb hib hbel hv hrow hf hbt' hbox'
    have hszH := Lib.hid (⟨hsz, hcf, hlen, hya⟩ : cur.size = x.size + y.size + 2 ∧ cur.size < f + 1 ∧ acc.length + cur.size ≤ a0.size ∧ y.size ≤ a0.size)
    clear hsz hcf hlen hline
    by_cases hhead : 8000 < (a0.size : Int) - (y.size : Int)
    · rw [if_pos zb17] at hstep
      have hst := Lib.hid hstep
      have hd := decide_eq_true hhead
      clear hstep hhead hya
      gi_wp2
      obtain ⟨hsb, hrb, heb, hib, hbel, hv, hrow⟩ := hWk.out
      exact ⟨KeepsFrom.refl _ _, ⟨.inl ⟨rfl, hst.out, ⟨_, hv⟩, hrb, heb⟩, hsb, hbel⟩⟩
    · rw [if_neg zb17] at hstep
      have hd := decide_eq_false hhead
      clear hhead hya
      by_cases hx0 : x.data.toList = []
      · rw [if_pos hx0] at hstep
        have hst := Lib.hid hstep
        obtain rfl : x = ⟨#[]⟩ := Sp.ba_ext hx0
        clear hstep hx0
        obtain ⟨hsb, hrb, heb, hib, hbel, hv, hrow⟩ := hWk.out
        gi_wp2
        have hv2 := (((hv.set (.slice A acc.length c)).other (B' := w.heap.size + 2) zb17 (.string y)).other (B' := w.heap.size + 3) zb17 (.int .i64 0))
        have hr2 := (((hrb.other (B' := w.heap.size + 1) zb17 (.slice A acc.length c)).set (.string y)).other (B' := w.heap.size + 3) zb17 (.int .i64 0))
        have he2 := (((heb.other (B' := w.heap.size + 1) zb17 (.slice A acc.length c)).other (B' := w.heap.size + 2) zb17 (.string y)).set (.int .i64 0))
        have hs2 := (((hsb.other (B' := w.heap.size + 1) zb17 (.slice A acc.length c)).other (B' := w.heap.size + 2) zb17 (.string y)).other (B' := w.heap.size + 3) zb17 (.int .i64 0))
        refine ⟨((((KeepsOthers.setCell _ _ _).trans (KeepsOthers.setCell _ _ _)).trans (KeepsOthers.setCell _ _ _)).from _), ⟨.inr ⟨rfl, ⟨_, hv2, ?_⟩, ?_, ?_⟩, hs2, ?_⟩⟩
        · rw [hst.out]
          exact row_set3 hrow hv hrb heb
        · rw [hst.out]
          show Boxed _ _ _ (.string (Sp.mk y.data.toList))
          rw [Sp.mk_self]
          exact hr2
        · rw [hst.out]
          exact he2
        · exact ((hbel.setCell (p := ⟨w.heap.size + 1, 0, none⟩) (Nat.le_add_right _ _) _).setCell (p := ⟨w.heap.size + 2, 0, none⟩) (Nat.le_add_right _ _) _).setCell (p := ⟨w.heap.size + 3, 0, none⟩) (Nat.le_add_right _ _) _
      · rw [if_neg hx0] at hstep
        have hne1 : ¬ x.toList = [] := by rw [Sp.tl]; exact hx0
        have hne2 : (x.toList == []) = false := by simpa using hne1
        have hxl : x.data.toList.length < 4294967281 := by rw [← Lib.size_eq]; have := hszH.out; omega
        have HF := Sp.pairF x.data.toList (x.data.toList.length + 1) hxl zb17
        rw [Sp.mk_self] at HF
        have HP0 := field_pair.calls _ x _ _ _ W (hG.below hWk.out.2.2.2.2.1) HF
        clear HF hxl hx0
        have hf31 : Fence.wide.fn 62 := trivial
        obtain ⟨pp, hpp⟩ : ∃ pp, pp = Sp.pairP x.data.toList := ⟨_, rfl⟩
        rw [← hpp] at hstep HP0
        clear hpp
        obtain ⟨q1, q2, q3⟩ := pp
        simp only at hstep HP0
        have HP := Lib.hid (CallsIn.inRound l (callsIn_wide.2 HP0) (n := 7))
        have hst := Lib.hid hstep
        clear hstep HP0
        obtain ⟨hsb, hrb, heb, hib, hbel, hv, hrow⟩ := hWk.out
        have hvH := Lib.hid hv
        have hrH := Lib.hid hrb
        have heH := Lib.hid heb
        clear hv hrb heb hcl hcr hce hfl hfr hfe
        cases q3 with
        | false =>
          gi_wp2_with (gi_at_call 62; refine HP.out.mono ?_; rintro e W1 ⟨rfl, hb1⟩; have hv1 := Lib.hid (bx_below hvH.out hb1); have hr1 := Lib.hid (bx_below hrH.out hb1); have he1 := Lib.hid (bx_below heH.out hb1); have hl1 := hv1.out.cell; have hl2 := hv1.out.frozen; have hl3 := hr1.out.cell; have hl4 := hr1.out.frozen; have hl5 := he1.out.cell; have hl6 := he1.out.frozen; have hz1 := hv1.out.lt; have hz2 := hr1.out.lt; have hz3 := he1.out.lt)
          have hR2 : R = ([], [], 180) := by simpa using hst.out
          have hlt := hbel.size
          have hrr := hrH.out
          have hee := heH.out
          have hvv := hvH.out
          have hss := bx_below hsb hb1
          have e1 := (((hv1.out.set (.slice none 0 0)).other (B' := w.heap.size + 2) zb17 (.string ⟨#[]⟩)).other (B' := w.heap.size + 3) zb17 (.int .i64 180)).alloc (Obj.cells #[Value.string (Sp.mk q1), Value.string (Sp.mk q2)] 49)
          have e2 := (((hr1.out.other (B' := w.heap.size + 1) zb17 (.slice none 0 0)).set (.string ⟨#[]⟩)).other (B' := w.heap.size + 3) zb17 (.int .i64 180)).alloc (Obj.cells #[Value.string (Sp.mk q1), Value.string (Sp.mk q2)] 49)
          have e3 := (((he1.out.other (B' := w.heap.size + 1) zb17 (.slice none 0 0)).other (B' := w.heap.size + 2) zb17 (.string ⟨#[]⟩)).set (.int .i64 180)).alloc (Obj.cells #[Value.string (Sp.mk q1), Value.string (Sp.mk q2)] 49)
          have e0 := (((hss.other (B' := w.heap.size + 1) zb17 (.slice none 0 0)).other (B' := w.heap.size + 2) zb17 (.string ⟨#[]⟩)).other (B' := w.heap.size + 3) zb17 (.int .i64 180)).alloc (Obj.cells #[Value.string (Sp.mk q1), Value.string (Sp.mk q2)] 49)
          refine ⟨((((keeps_below hb1 _).trans ((KeepsOthers.setCell _ _ _).from _)).trans ((KeepsOthers.setCell _ _ _).from _)).trans ((KeepsOthers.setCell _ _ _).from _)).trans ((KeepsOthers.alloc _ _).from _), ⟨.inr ⟨rfl, ⟨_, e1, ?_⟩, ?_, ?_⟩, e0, ?_⟩⟩
          · rw [hR2]
            exact World.ownsRow_nil _ _ _ _
          · rw [hR2]
            exact e2
          · rw [hR2]
            exact e3
          · refine ((((hbel.trans (hb1.mono hbel.size)).setCell (p := ⟨w.heap.size + 1, 0, none⟩) (Nat.le_add_right _ _) _).setCell (p := ⟨w.heap.size + 2, 0, none⟩) (Nat.le_add_right _ _) _).setCell (p := ⟨w.heap.size + 3, 0, none⟩) (Nat.le_add_right _ _) _).alloc ?_ _
            have := hb1.size
            simp only [World.setCell, Array.size_modify]
            omega
        | true =>
          have hlH := Lib.hid (show acc.length + 1 ≤ 4294967281 by have := hszH.out; omega)
          gi_wp2_with (first | (gi_at_call 62; refine HP.out.mono ?_; rintro e W1 ⟨rfl, hb1⟩; have hv1 := Lib.hid (bx_below hvH.out hb1); have hl1 := hv1.out.cell; have hl2 := hv1.out.frozen; have hz1 := hv1.out.lt; have hb1 := Lib.hid hb1) | (gi_at_builtin; refine wpListIn_append_own _ rfl _ _ 34 rfl w.heap.size 49 i0 _ 2 32 Tryz.underlying34 hi hz0 hz1' hz2 rfl zb20 _ _ _ rfl (((row_below hrow hb1.out).alloc _).alloc _) ⟨W1.heap.size + 1, 0, none⟩ 1 1 [.string (Sp.mk q1), .string (Sp.mk q2)] rfl rfl (cells_two _ _ _ _) (by simp [Value.oneCell']) (by have := hlH.out; unfold maxLen; omega) (by have := hlH.out; omega) (by have := hbel.size; have := hb1.out.size; simp; omega) ?_; intro v' w1 hown' hgrow _; obtain ⟨A', c', rfl⟩ := own_slice hown'; have hown' := Lib.hid hown'; have hv2 := Lib.hid (((hv1.out.alloc _).alloc _).kept hgrow (hvH.out.not_row zb20 hrow)); have hgrow := Lib.hid hgrow; have hl3 := hv2.out.cell; have hl4 := hv2.out.frozen))
          have hR2 : Sp.fparse a0.size f y.data.toList (acc ++ [(q1, q2)]) = R := by simpa using hst.out.symm
          have hszz := hszH.out
          have hrowW1 := row_below hrow hb1.out
          have nr : ∀ {B t u}, Boxed W B t u → t ≠ 49 → Boxed w1 B t u := fun hb ht => (((bx_below hb hb1.out).alloc _).alloc _).kept hgrow.out (hb.not_row ht hrow)
          obtain ⟨u4, hu4⟩ := hib
          have g4 := nr hu4 zb20
          refine ⟨?_, ?_, ⟨⟨f, acc ++ [(q1, q2)], _, hR2, by omega, by simp only [List.length_append, List.length_singleton]; omega, hv2.out.set _, ?_⟩, bx_set (nr hsb zb20) _ (by show w.heap.size ≠ w.heap.size + 1; omega) _, bx_set (nr hrH.out zb20) _ (by show w.heap.size + 2 ≠ w.heap.size + 1; omega) _, bx_set (nr heH.out zb20) _ (by show w.heap.size + 3 ≠ w.heap.size + 1; omega) _, ⟨u4, bx_set g4 _ (by show w.heap.size + 4 ≠ w.heap.size + 1; omega) _⟩, ?_⟩⟩
          · refine ((((keeps_below hb1.out _).trans ((KeepsOthers.alloc _ _).from _)).trans ((KeepsOthers.alloc _ _).from _)).trans ((KeepsOthers.of_grownBy hgrow.out fun j o ej hj => ?_).from _)).trans ((KeepsOthers.setCell _ _ _).from _)
            obtain ⟨cells, hcell⟩ := own_typed ((hrowW1.alloc (Obj.cells #[Value.string (Sp.mk q1), Value.string (Sp.mk q2)] 49)).alloc (Obj.cells #[Value.string (Sp.mk q1), Value.string (Sp.mk q2)] 49)) j ej
            rw [hcell] at hj
            cases hj
            rfl
          · exact (Below.heap_setCell _ _ _ _ (by show w.heap.size + 4 ≠ w.heap.size + 1; omega)).trans ((show w1.heap[w.heap.size + 4]? = _ from g4).trans (show W.heap[w.heap.size + 4]? = _ from hu4).symm)
          · have h9 := row_far (x := .slice A' (acc.length + 1) c') hown'.out hv2.out zb20
            rw [show (acc ++ [(q1, q2)]).length = acc.length + 1 from by simp, show flatV (acc ++ [(q1, q2)]) = flatV acc ++ [.string (Sp.mk q1), .string (Sp.mk q2)] from by simp [flatV]]
            exact h9
          · refine ((((hbel.trans (hb1.out.mono hbel.size)).alloc (Nat.le_trans hbel.size hb1.out.size) _).alloc ?_ _).grown hgrow.out ?_ (fun k ek => own_base hrow k ek)).setCell (p := ⟨w.heap.size + 1, 0, none⟩) (Nat.le_add_right _ _) _
            · have := hbel.size; have := hb1.out.size; simp; omega
            · have := hbel.size; have := hb1.out.size; simp; omega
  case done =>
    intro D cur W hD hcur hb hK
    obtain ⟨⟨f, acc, v, hf, hcf, hlen, hv, hrow⟩, hsb, hrb, heb, hib, hbel⟩ := hb
    obtain ⟨f, rfl⟩ : ∃ f', f = f' + 1 := ⟨f - 1, by omega⟩
    have hend := (fparse_stop a0.size f cur acc hcur).symm.trans hf
    obtain ⟨A, c, rfl⟩ := own_slice hrow
    have hc0 := hsb.cell
    have hcl := hv.cell
    have hcr := hrb.cell
    have hce := heb.cell
    have hflz := hv.frozen
    have hfr := hrb.frozen
    have hfe := heb.frozen
    have hd5 : w.heap.size + 5 ≤ D := by rw [← hsz'.out]; exact hD
    have hWk := Lib.hid (⟨hsb, hrb, heb, hbel, hv⟩ : Boxed W w.heap.size 9 (.string a0) ∧ Boxed W (w.heap.size + 2) 9 (.string ⟨#[]⟩) ∧ Boxed W (w.heap.size + 3) 24 (.int .i64 0) ∧ Below w.heap.size w W ∧ Boxed W (w.heap.size + 1) 34 (.slice A acc.length c))
    have hfB := Lib.hid (hR'.out.symm.trans hend.symm)
    have hKH := Lib.hid hK
    clear hf hlen hcur hbt' hbox' hsb hrb heb hib hbel hv hrow hend hK hR' hcf
    by_cases h8 : 8000 < (a0.size : Int)
    · have hdd := decide_eq_true h8
      gi_wp2
      obtain ⟨hsb, hrb, heb, hbel, hv⟩ := hWk.out
      have hK3 := (((KeepsOthers.setCell W ⟨w.heap.size + 1, 0, none⟩ (.slice none 0 0)).trans (KeepsOthers.setCell _ ⟨w.heap.size + 2, 0, none⟩ (.string ⟨#[]⟩))).trans (KeepsOthers.setCell _ ⟨w.heap.size + 3, 0, none⟩ (.int .i64 2))).same D _ hKH.out rfl
      refine ⟨by simp, .inl ⟨_, _, rfl, run_takeDeferred hK3, ?_⟩⟩
      exact parse_leaves rfl rfl rfl hK3 (((hv.set _).other zb17 _).other zb17 _) (((hrb.other zb17 _).set _).other zb17 _) (((heb.other zb17 _).other zb17 _).set _) (World.ownsRow_nil _ _ _ _) (((hbel.setCell (p := ⟨w.heap.size + 1, 0, none⟩) (Nat.le_add_right _ _) _).setCell (p := ⟨w.heap.size + 2, 0, none⟩) (Nat.le_add_right _ _) _).setCell (p := ⟨w.heap.size + 3, 0, none⟩) (Nat.le_add_right _ _) _) hd5 (hfB.out.trans (by rw [if_pos zb17])) rfl
    · have hdd := decide_eq_false h8
      gi_wp2
      obtain ⟨hsb, hrb, heb, hbel, hv⟩ := hWk.out
      have hK3 := (((KeepsOthers.setCell W ⟨w.heap.size + 1, 0, none⟩ (.slice none 0 0)).trans (KeepsOthers.setCell _ ⟨w.heap.size + 2, 0, none⟩ (.string ⟨#[]⟩))).trans (KeepsOthers.setCell _ ⟨w.heap.size + 3, 0, none⟩ (.int .i64 180))).same D _ hKH.out rfl
      refine ⟨by simp, .inl ⟨_, _, rfl, run_takeDeferred hK3, ?_⟩⟩
      exact parse_leaves rfl rfl rfl hK3 (((hv.set _).other zb17 _).other zb17 _) (((hrb.other zb17 _).set _).other zb17 _) (((heb.other zb17 _).other zb17 _).set _) (World.ownsRow_nil _ _ _ _) (((hbel.setCell (p := ⟨w.heap.size + 1, 0, none⟩) (Nat.le_add_right _ _) _).setCell (p := ⟨w.heap.size + 2, 0, none⟩) (Nat.le_add_right _ _) _).setCell (p := ⟨w.heap.size + 3, 0, none⟩) (Nat.le_add_right _ _) _) hd5 (hfB.out.trans (by rw [if_neg zb17])) rfl
  case stop =>
    intro D c W hD hl hK
    obtain ⟨hhow, hsb, hbel⟩ := hl
    have hd5 : w.heap.size + 5 ≤ D := by rw [← hsz'.out]; exact hD
    have hKH := Lib.hid hK
    clear hK hbt' hbox'
    rcases hhow with ⟨rfl, hfin, ⟨v, hv⟩, hrb, heb⟩ | ⟨rfl, ⟨v, hv, hrow⟩, hrb, heb⟩
    · have hc0 := hsb.cell
      have hcl := hv.cell
      have hcr := hrb.cell
      have hce := heb.cell
      have hflz := hv.frozen
      have hfr := hrb.frozen
      have hfe := heb.frozen
      have hWk := Lib.hid (⟨hsb, hrb, heb, hbel, hv⟩ : Boxed W w.heap.size 9 (.string a0) ∧ Boxed W (w.heap.size + 2) 9 (.string ⟨#[]⟩) ∧ Boxed W (w.heap.size + 3) 24 (.int .i64 0) ∧ Below w.heap.size w W ∧ Boxed W (w.heap.size + 1) 34 v)
      have hfB := Lib.hid (hR'.out.symm.trans hfin)
      clear hfin hsb hrb heb hbel hv hR'
      by_cases h8 : 8000 < (a0.size : Int)
      · have hdd := decide_eq_true h8
        gi_wp2
        obtain ⟨hsb, hrb, heb, hbel, hv⟩ := hWk.out
        have hK3 := (((KeepsOthers.setCell W ⟨w.heap.size + 1, 0, none⟩ (.slice none 0 0)).trans (KeepsOthers.setCell _ ⟨w.heap.size + 2, 0, none⟩ (.string ⟨#[]⟩))).trans (KeepsOthers.setCell _ ⟨w.heap.size + 3, 0, none⟩ (.int .i64 2))).same D _ hKH.out rfl
        refine ⟨by simp, .inl ⟨_, _, rfl, run_takeDeferred hK3, ?_⟩⟩
        exact parse_leaves rfl rfl rfl hK3 (((hv.set _).other zb17 _).other zb17 _) (((hrb.other zb17 _).set _).other zb17 _) (((heb.other zb17 _).other zb17 _).set _) (World.ownsRow_nil _ _ _ _) (((hbel.setCell (p := ⟨w.heap.size + 1, 0, none⟩) (Nat.le_add_right _ _) _).setCell (p := ⟨w.heap.size + 2, 0, none⟩) (Nat.le_add_right _ _) _).setCell (p := ⟨w.heap.size + 3, 0, none⟩) (Nat.le_add_right _ _) _) hd5 (hfB.out.trans (by rw [if_pos zb17])) rfl
      · have hdd := decide_eq_false h8
        gi_wp2
        obtain ⟨hsb, hrb, heb, hbel, hv⟩ := hWk.out
        have hK3 := (((KeepsOthers.setCell W ⟨w.heap.size + 1, 0, none⟩ (.slice none 0 0)).trans (KeepsOthers.setCell _ ⟨w.heap.size + 2, 0, none⟩ (.string ⟨#[]⟩))).trans (KeepsOthers.setCell _ ⟨w.heap.size + 3, 0, none⟩ (.int .i64 180))).same D _ hKH.out rfl
        refine ⟨by simp, .inl ⟨_, _, rfl, run_takeDeferred hK3, ?_⟩⟩
        exact parse_leaves rfl rfl rfl hK3 (((hv.set _).other zb17 _).other zb17 _) (((hrb.other zb17 _).set _).other zb17 _) (((heb.other zb17 _).other zb17 _).set _) (World.ownsRow_nil _ _ _ _) (((hbel.setCell (p := ⟨w.heap.size + 1, 0, none⟩) (Nat.le_add_right _ _) _).setCell (p := ⟨w.heap.size + 2, 0, none⟩) (Nat.le_add_right _ _) _).setCell (p := ⟨w.heap.size + 3, 0, none⟩) (Nat.le_add_right _ _) _) hd5 (hfB.out.trans (by rw [if_neg zb17])) rfl
    · have hvH := Lib.hid hv
      have hrH := Lib.hid hrb
      have heH := Lib.hid heb
      clear hv hrb heb
      gi_wp2
      refine ⟨by simp, .inl ⟨_, _, rfl, run_takeDeferred hKH.out, ?_⟩⟩
      exact parse_leaves rfl rfl rfl hKH.out hvH.out hrH.out heH.out hrow hbel hd5 hR'.out.symm rfl
theorem field_Parse.calls (a0 : ByteArray) (r1 : List S49) (r2 : ByteArray) (r3 : Int) (w : World) (hG : Glob w) (h : field_Parse.f a0 = some (r1, r2, r3)) :
    Calls Tryz.prog 35 #[.string a0] w fun e w' => ∃ v0_ : Value, e = .returned (.tuple #[v0_, .string r2, .int .i64 r3]) ∧ Kd.R k49 49 w' w.heap.size (fun _ => True) v0_ r1 ∧ Below w.heap.size w w' := by
  unfold field_Parse.f at h
  split at h
  case isFalse => exact absurd h zb25
  rename_i hs
  have h2 := Option.some.inj h
  have := parse_in a0 w hG hs
  rw [h2] at this
  exact this
end Go.Proofs.YteonhdfjfjpbjaaGreatDoor.O
/- Olen -/
namespace Go.Proofs.YteonhdfjfjpbjaaGreatDoor.O
open Go.RowKit Go.Proofs.YteonhdfjfjpbjaaGreatDoorW.PrintWords Go.Proofs.YteonhdfjfjpbjaaGreatDoorW.PrintLast Go.Proofs.YteonhdfjfjpbjaaGreatDoorW.PrintMore Go.Proofs.YteonhdfjfjpbjaaGreatDoor.P Go.Proofs.YteonhdfjfjpbjaaGreatDoor.B
set_option linter.unusedVariables false
set_option linter.unusedSimpArgs false
def Builder_Len.f (s0 : ByteArray) : Option (Int × ByteArray) := some ((s0.size : Int), s0)
theorem Builder_Len.calls (g : Nat) (s0_0 : ByteArray) (r1 : Int) (r2 : ByteArray) (w0 w : World) (hI : IsS54 w0 w g s0_0) (hB : Below w0.heap.size w0 w) (h : Builder_Len.f s0_0 = some (r1, r2)) :
    Calls Tryz.prog 34 #[.pointer (some ⟨g, 0, none⟩)] w fun e w' => e = .returned (.int .i64 r1) ∧ IsS54 w0 w' g r2 ∧ Below w0.heap.size w0 w' ∧ KeepB 5 w w' g := by
  obtain ⟨rfl, rfl⟩ : (s0_0.size : Int) = r1 ∧ s0_0 = r2 := by simpa [Builder_Len.f] using h
  refine (Tryz.Builder_Len_f w0.heap.size g _ w hI).mono ?_
  rintro e w' ⟨rfl, rfl⟩
  rw [cells_len]
  exact ⟨rfl, hI, hB, ⟨by first | exact Lib.OthersKept.refl _ _ _ | exact ⟨fun _ _ h _ _ => h⟩ | (intro k o hk _ _; exact hk)⟩⟩
end Go.Proofs.YteonhdfjfjpbjaaGreatDoor.O
/- Px14 -/
namespace Go.Proofs.YteonhdfjfjpbjaaGreatDoor.P
open Go.Proofs.YteonhdfjfjpbjaaGreatDoor.B
open Go.RowKit Go.Proofs.YteonhdfjfjpbjaaGreatDoorW.PrintWords Go.Proofs.YteonhdfjfjpbjaaGreatDoorW.PrintLast Go.Proofs.YteonhdfjfjpbjaaGreatDoorW.PrintMore
attribute [local go_sem] str_leq str_gtr str_geq max2_int min2_int max_two min_two max_three min_three max_four min_four
set_option linter.unusedVariables false
set_option linter.unusedSimpArgs false
open Go.Proofs.YteonhdfjfjpbjaaGreatDoor.O
mutual
def chunk_Decode.l0 : Nat → ByteArray → ByteArray → Option (ByteArray × ByteArray × Int)
  | 0, _, _ => none
  | k + 1, x0, x155000 => (strings_Cut.f x0 (⟨#[13, 10]⟩ : ByteArray)).bind fun bt155 => ((chunk_size.f k bt155.1).bind fun bt158 => (if bt155.2.2 = true then (chunk_Decode.j1 k bt155.2.1 bt158.1 (!bt158.2) x155000) else (chunk_Decode.j1 k bt155.2.1 bt158.1 true x155000)))
def chunk_Decode.j1 : Nat → ByteArray → Int → Bool → ByteArray → Option (ByteArray × ByteArray × Int)
  | 0, _, _, _, _ => none
  | k + 1, x7, x9, x25, x155000 => if x25 = true then (some ((⟨#[]⟩ : ByteArray), (⟨#[]⟩ : ByteArray), 190)) else (if x9 = 0 then ((field_Parse.f x7).bind fun bt168 => (if bt168.2.2 = 0 then ((Builder_String.f x155000).bind fun bt173 => (some (bt173.1, bt168.2.1, 0))) else (some ((⟨#[]⟩ : ByteArray), (⟨#[]⟩ : ByteArray), 190)))) else ((Builder_Len.f x155000).bind fun bt160 => ((chunk_part.f x7 x9 bt160.1).bind fun bt162 => (if bt162.2.2 = 0 then ((Builder_WriteString.f bt160.2 bt162.1).bind fun bt165 => (chunk_Decode.l0 k bt162.2.1 bt165.2.2)) else (some ((⟨#[]⟩ : ByteArray), (⟨#[]⟩ : ByteArray), bt162.2.2))))))
end
def chunk_Decode.f (k : Nat) (a0 : ByteArray) : Option (ByteArray × ByteArray × Int) := chunk_Decode.l0 k a0 (⟨#[]⟩ : ByteArray)
set_option maxHeartbeats 8000000 in
set_option maxRecDepth 100000 in
theorem chunk_Decode.calls (k : Nat) (a0 : ByteArray) (r1 : ByteArray) (r2 : ByteArray) (r3 : Int) (w : World) (hG : Glob w) (h : chunk_Decode.f k a0 = some (r1, r2, r3)) :
  Calls Tryz.prog 12 #[.string a0] w fun e w' => e = .returned (.tuple #[.string r1, .string r2, .int .i64 r3]) ∧ Below w.heap.size w w' := by
 have hu54 := Tryz.underlying54
 have HB := Aside0.mk (Below.refl w.heap.size w)
 have hGA := Aside0.mk hG
 clear hG
 have H : (chunk_Decode.l0 k a0 (⟨#[]⟩ : ByteArray)) = some (r1, r2, r3) := h
 clear h
 have H' := Aside0.mk H
 clear H
 go_enter Tryz.func12, Tryz.ntmps12
 go_wp2_with (first | ((with_reducible refine gate_dst (N := 5) rfl ?_); refine box_event ?hg (N := 5) ?hd (cs := #[.pointer none, .slice none 0 0]) (t := 54) ?hr ?_; (case hd => rfl); (case hg => rfl); (case hr => first | (go_simp; done) | (go_simp; rfl)); intro gb154 hg w2 hbox hb; have n0_ := Aside0.mk (below_step zb0 hb); have n1_ := Aside0.mk ((by rw [hg]; exact (below_size zb0) : w.heap.size ≤ gb154)); have n2_ := Aside0.mk ((by rw [hg]; exact (below_size zb0) : w.heap.size ≤ gb154)); have n3_ := Aside0.mk ((show IsS54 w w2 gb154 (⟨#[]⟩ : ByteArray) from IsS54.new hbox zb40)); clear HB; have HB := n0_; have GW154 := n1_; have GE154 := n2_; have HI154 := n3_; clear n0_ n1_ n2_ n3_; clear hb hbox hg))
 try (refine wp_scope_straight ?_; go_wp2_with (first | ((with_reducible refine gate_dst (N := 5) rfl ?_); refine box_event ?hg (N := 5) ?hd (cs := #[.pointer none, .slice none 0 0]) (t := 54) ?hr ?_; (case hd => rfl); (case hg => rfl); (case hr => first | (go_simp; done) | (go_simp; rfl)); intro gb154 hg w2 hbox hb; have n0_ := Aside0.mk (below_step zb0 hb); have n1_ := Aside0.mk ((by rw [hg]; exact (below_size zb0) : w.heap.size ≤ gb154)); have n2_ := Aside0.mk ((by rw [hg]; exact (below_size zb0) : w.heap.size ≤ gb154)); have n3_ := Aside0.mk ((show IsS54 w w2 gb154 (⟨#[]⟩ : ByteArray) from IsS54.new hbox zb40)); clear HB; have HB := n0_; have GW154 := n1_; have GE154 := n2_; have HI154 := n3_; clear n0_ n1_ n2_ n3_; clear hb hbox hg)))
 try (with_reducible apply wp_label; go_wp2_with (first | ((with_reducible refine gate_dst (N := 5) rfl ?_); refine box_event ?hg (N := 5) ?hd (cs := #[.pointer none, .slice none 0 0]) (t := 54) ?hr ?_; (case hd => rfl); (case hg => rfl); (case hr => first | (go_simp; done) | (go_simp; rfl)); intro gb154 hg w2 hbox hb; have n0_ := Aside0.mk (below_step zb0 hb); have n1_ := Aside0.mk ((by rw [hg]; exact (below_size zb0) : w.heap.size ≤ gb154)); have n2_ := Aside0.mk ((by rw [hg]; exact (below_size zb0) : w.heap.size ≤ gb154)); have n3_ := Aside0.mk ((show IsS54 w w2 gb154 (⟨#[]⟩ : ByteArray) from IsS54.new hbox zb40)); clear HB; have HB := n0_; have GW154 := n1_; have GE154 := n2_; have HI154 := n3_; clear n0_ n1_ n2_ n3_; clear hb hbox hg)))
 first | go_loopg [0] k (fun kq v0 w' => ∃ (x0_1 : ByteArray) (x155000_1 : ByteArray), v0 = .string x0_1 ∧ Aside0 (chunk_Decode.l0 kq x0_1 x155000_1 = some (r1, r2, r3)) ∧ Aside0 (kq ≤ k) ∧ Aside0 (IsS54 w w' gb154 x155000_1) ∧ Aside0 (Below w.heap.size w w')) | (go_simp; go_loopg [0] k (fun kq v0 w' => ∃ (x0_1 : ByteArray) (x155000_1 : ByteArray), v0 = .string x0_1 ∧ Aside0 (chunk_Decode.l0 kq x0_1 x155000_1 = some (r1, r2, r3)) ∧ Aside0 (kq ≤ k) ∧ Aside0 (IsS54 w w' gb154 x155000_1) ∧ Aside0 (Below w.heap.size w w')))
 case atStart => exact ⟨(a0), ((⟨#[]⟩ : ByteArray)), zb6, H', ⟨Nat.le_refl _⟩, ⟨by repeat (first | (with_reducible first | exact HI154.out | apply IsS54.alloc | apply IsS54.drewN | apply IsS54.drew) | exact HI154.out)⟩, ⟨by repeat (first | (with_reducible first | exact HB.out | apply below_alloc | apply pw_below_drewN | apply below_drew1 | refine below_set ?_ (IsS54.ge HI154.out)) | exact HB.out)⟩⟩
 case round =>
  clear H'
  try clear c1
  try clear p2
  obtain ⟨x0_1, x155000_1, rfl, HA, HK1, HI154, HB⟩ := hrel
  cases gk with
  | zero => exact absurd HA.out (by simp [chunk_Decode.l0])
  | succ k1 =>
   have H := HA.out
   clear HA
   simp only [chunk_Decode.l0] at H
   replace H := Option.bind_eq_some_iff.mp H
   obtain ⟨⟨t155, t156, t157⟩, A30, H⟩ := H
   replace H : ((chunk_size.f k1 t155).bind fun bt158 => (if t157 = true then (chunk_Decode.j1 k1 t156 bt158.1 (!bt158.2) x155000_1) else (chunk_Decode.j1 k1 t156 bt158.1 true x155000_1))) = some (r1, r2, r3) := H
   have A3 := Aside0.mk A30
   clear A30
   replace H := Option.bind_eq_some_iff.mp H
   obtain ⟨⟨t158, t159⟩, A40, H⟩ := H
   replace H : (if t157 = true then (chunk_Decode.j1 k1 t156 t158 (!t159) x155000_1) else (chunk_Decode.j1 k1 t156 t158 true x155000_1)) = some (r1, r2, r3) := H
   have A4 := Aside0.mk A40
   clear A40
   have HC5 := Aside0.mk H
   clear H
   go_upto_region 4 with (first | ((with_reducible refine gate_callee (f := 31) rfl ?_); refine goesL_ (some 16) rfl rfl Tryz.func31 zb15 rfl #[.string x0_1, .string (⟨#[13, 10]⟩ : ByteArray)] rfl zb1 ?_; (with_reducible refine (strings_Cut.calls x0_1 (⟨#[13, 10]⟩ : ByteArray) t155 t156 t157 _ ?side1 A3.out).mono ?_); (case side1 => exact Glob.below hGA.out zb3); rintro e w6 ⟨rfl, hb⟩; refine ⟨_, rfl, ?_⟩; have n0_ := Aside0.mk (IsS54.below zb19 hb); have n1_ := Aside0.mk (below_step zb3 hb); clear HI154; clear HB; have HI154 := n0_; have HB := n1_; clear n0_ n1_; (try clear hb); (try clear hb2); (try clear hk); (try clear hi)) | ((with_reducible refine gate_callee (f := 32) rfl ?_); refine goesL_ (some 22) rfl rfl Tryz.func32 zb15 rfl #[.string t155] rfl zb1 ?_; (with_reducible refine (chunk_size.calls k1 t155 t158 t159 _ ?side1 A4.out).mono ?_); (case side1 => exact Glob.below hGA.out zb3); rintro e w7 ⟨rfl, hb⟩; refine ⟨_, rfl, ?_⟩; have n0_ := Aside0.mk (IsS54.below zb19 hb); have n1_ := Aside0.mk (below_step zb3 hb); clear HI154; clear HB; have HI154 := n0_; have HB := n1_; clear n0_ n1_; (try clear hb); (try clear hb2); (try clear hk); (try clear hi)))
   (try simp only [Act.put, List.setIfInBounds_toArray, List.set_cons_zero, List.set_cons_succ])
   go_cut [25] (fun v25 wc => ∃ (kq : Nat) (x25_4 : Bool), v25 = .bool x25_4 ∧ Aside0 (chunk_Decode.j1 kq t156 t158 x25_4 x155000_1 = some (r1, r2, r3)) ∧ Aside0 (kq ≤ k1) ∧ Aside0 (IsS54 w wc gb154 x155000_1) ∧ Aside0 (Below w.heap.size w wc))
   case first =>
    have H := HC5.out
    clear HC5
    by_cases c8 : t157 = true
    ·subst c8
     replace H : (chunk_Decode.j1 k1 t156 t158 (!t159) x155000_1) = some (r1, r2, r3) := by rw [if_pos rfl] at H; exact H
     have H' := Aside0.mk H
     clear H
     go_wp2
     try (refine wp_scope_straight ?_; go_wp2)
     try (with_reducible apply wp_label; go_wp2)
     go_meet
     case rel => exact ⟨_, (!t159), zb6, H', ⟨by have := HK1.out; first | omega | exact Nat.le_refl _⟩, ⟨by repeat (first | (with_reducible first | exact HI154.out | apply IsS54.alloc | apply IsS54.drewN | apply IsS54.drew) | exact HI154.out)⟩, ⟨by repeat (first | (with_reducible first | exact HB.out | apply below_alloc | apply pw_below_drewN | apply below_drew1 | refine below_set ?_ (IsS54.ge HI154.out)) | exact HB.out)⟩⟩
    ·replace c8 := Bool.eq_false_iff.mpr c8
     subst c8
     replace H : (chunk_Decode.j1 k1 t156 t158 true x155000_1) = some (r1, r2, r3) := by rw [if_neg (show ¬ (false = true) by decide)] at H; exact H
     have H' := Aside0.mk H
     clear H
     go_wp2
     try (refine wp_scope_straight ?_; go_wp2)
     try (with_reducible apply wp_label; go_wp2)
     go_meet
     case rel => exact ⟨_, (true), zb6, H', ⟨by have := HK1.out; first | omega | exact Nat.le_refl _⟩, ⟨by repeat (first | (with_reducible first | exact HI154.out | apply IsS54.alloc | apply IsS54.drewN | apply IsS54.drew) | exact HI154.out)⟩, ⟨by repeat (first | (with_reducible first | exact HB.out | apply below_alloc | apply pw_below_drewN | apply below_drew1 | refine below_set ?_ (IsS54.ge HI154.out)) | exact HB.out)⟩⟩
   case rest =>
    clear HC5
    try clear c1
    try clear p2
    try clear c3
    try clear c8
    try clear p2
    obtain ⟨kq, x25_4, rfl, HA, HJ4, HI154, HB⟩ := hcut
    cases kq with
    | zero => exact absurd HA.out (by simp [chunk_Decode.j1])
    | succ kj4 =>
     have H := HA.out
     clear HA
     simp only [chunk_Decode.j1] at H
     by_cases c9 : x25_4 = true
     ·subst c9
      replace H : (some ((⟨#[]⟩ : ByteArray), (⟨#[]⟩ : ByteArray), 190)) = some (r1, r2, r3) := by rw [if_pos rfl] at H; exact H
      simp only [Option.some.injEq, Prod.mk.injEq] at H
      obtain ⟨rfl, rfl, rfl⟩ := H
      go_wp2
      try (refine wp_scope_straight ?_; go_wp2)
      try (with_reducible apply wp_label; go_wp2)
      try dsimp only [Exit.noGoto]
      go_ret3
      exact ⟨zb4, zb3⟩
     ·replace c9 := Bool.eq_false_iff.mpr c9
      subst c9
      replace H : (if t158 = 0 then ((field_Parse.f t156).bind fun bt168 => (if bt168.2.2 = 0 then ((Builder_String.f x155000_1).bind fun bt173 => (some (bt173.1, bt168.2.1, 0))) else (some ((⟨#[]⟩ : ByteArray), (⟨#[]⟩ : ByteArray), 190)))) else ((Builder_Len.f x155000_1).bind fun bt160 => ((chunk_part.f t156 t158 bt160.1).bind fun bt162 => (if bt162.2.2 = 0 then ((Builder_WriteString.f bt160.2 bt162.1).bind fun bt165 => (chunk_Decode.l0 kj4 bt162.2.1 bt165.2.2)) else (some ((⟨#[]⟩ : ByteArray), (⟨#[]⟩ : ByteArray), bt162.2.2)))))) = some (r1, r2, r3) := by rw [if_neg (show ¬ (false = true) by decide)] at H; exact H
      by_cases c10 : t158 = 0
      ·rw [if_pos c10] at H
       have c10b0 : (t158 == 0) = true := beq_iff_eq.mpr c10
       have c10b1 : (t158 != 0) = false := bne_eq_false_iff_eq.mpr c10
       clear c10
       replace H := Option.bind_eq_some_iff.mp H
       obtain ⟨⟨t168, t169, t170⟩, A110, H⟩ := H
       replace H : (if t170 = 0 then ((Builder_String.f x155000_1).bind fun bt173 => (some (bt173.1, t169, 0))) else (some ((⟨#[]⟩ : ByteArray), (⟨#[]⟩ : ByteArray), 190))) = some (r1, r2, r3) := H
       have A11 := Aside0.mk A110
       clear A110
       by_cases c12 : t170 = 0
       ·rw [if_pos c12] at H
        have c12b0 : (t170 == 0) = true := beq_iff_eq.mpr c12
        have c12b1 : (t170 != 0) = false := bne_eq_false_iff_eq.mpr c12
        clear c12
        replace H := Option.bind_eq_some_iff.mp H
        obtain ⟨⟨t173, t174⟩, A130, H⟩ := H
        replace H : (some (t173, t169, 0)) = some (r1, r2, r3) := H
        have A13 := Aside0.mk A130
        clear A130
        simp only [Option.some.injEq, Prod.mk.injEq] at H
        obtain ⟨rfl, rfl, rfl⟩ := H
        go_wp2_with (first | ((with_reducible refine gate_callee (f := 35) rfl ?_); refine goesL_ (some 52) rfl rfl Tryz.func35 zb15 rfl #[.string t156] rfl zb1 ?_; (with_reducible refine (field_Parse.calls t156 t168 t169 t170 _ ?side1 A11.out).mono ?_); (case side1 => exact Glob.below hGA.out zb3); rintro e w14 ⟨v171, rfl, ho0, hb⟩; refine ⟨_, rfl, ?_⟩; have n0_ := Aside0.mk (Kd.R_lower ho0 (below_size zb3)); have n1_ := Aside0.mk (IsS54.below zb19 hb); have n2_ := Aside0.mk (below_step zb3 hb); clear HI154; clear HB; have HO172 := n0_; have HI154 := n1_; have HB := n2_; clear n0_ n1_ n2_; (try clear hb); (try clear hb2); (try clear hk); (try clear hi); (try clear ho0)) | ((with_reducible refine gate_callee (f := 29) rfl ?_); refine goesL_ (some 58) rfl rfl Tryz.func29 zb15 rfl #[.pointer (some ⟨gb154, 0, none⟩)] rfl zb1 ?_; (with_reducible refine (Builder_String.calls gb154 x155000_1 t173 t174 w _ ?side1 ?side2 A13.out).mono ?_); (case side1 => repeat (first | (with_reducible first | exact HI154.out | apply IsS54.alloc | apply IsS54.drewN | apply IsS54.drew) | exact HI154.out)); (case side2 => repeat (first | (with_reducible first | exact HB.out | apply below_alloc | apply pw_below_drewN | apply below_drew1 | refine below_set ?_ (IsS54.ge HI154.out)) | exact HB.out)); rintro e w15 ⟨rfl, hi, hb, hk⟩; refine ⟨_, rfl, ?_⟩; have n0_ := Aside0.mk (Kd.R_mono (R_keepB (IsS54.apart (show IsS54 w _ gb154 x155000_1 from by repeat (first | (with_reducible first | exact HI154.out | apply IsS54.alloc | apply IsS54.drewN | apply IsS54.drew) | exact HI154.out)) (by (with_reducible repeat (first | apply Kd.R_alloc | apply Kd.R_drewN | apply Kd.R_drew)); exact HO172.out) zb20) hk zb20) (fun _ h => h.1)); have n1_ := Aside0.mk (hb); have n2_ := Aside0.mk (hi); clear HO172; clear HB; clear HI154; have HO172 := n0_; have HB := n1_; have HI154 := n2_; clear n0_ n1_ n2_; (try clear hb); (try clear hk); (try clear hi)))
        try (refine wp_scope_straight ?_; go_wp2_with (first | ((with_reducible refine gate_callee (f := 35) rfl ?_); refine goesL_ (some 52) rfl rfl Tryz.func35 zb15 rfl #[.string t156] rfl zb1 ?_; (with_reducible refine (field_Parse.calls t156 t168 t169 t170 _ ?side1 A11.out).mono ?_); (case side1 => exact Glob.below hGA.out zb3); rintro e w14 ⟨v171, rfl, ho0, hb⟩; refine ⟨_, rfl, ?_⟩; have n0_ := Aside0.mk (Kd.R_lower ho0 (below_size zb3)); have n1_ := Aside0.mk (IsS54.below zb19 hb); have n2_ := Aside0.mk (below_step zb3 hb); clear HI154; clear HB; have HO172 := n0_; have HI154 := n1_; have HB := n2_; clear n0_ n1_ n2_; (try clear hb); (try clear hb2); (try clear hk); (try clear hi); (try clear ho0)) | ((with_reducible refine gate_callee (f := 29) rfl ?_); refine goesL_ (some 58) rfl rfl Tryz.func29 zb15 rfl #[.pointer (some ⟨gb154, 0, none⟩)] rfl zb1 ?_; (with_reducible refine (Builder_String.calls gb154 x155000_1 t173 t174 w _ ?side1 ?side2 A13.out).mono ?_); (case side1 => repeat (first | (with_reducible first | exact HI154.out | apply IsS54.alloc | apply IsS54.drewN | apply IsS54.drew) | exact HI154.out)); (case side2 => repeat (first | (with_reducible first | exact HB.out | apply below_alloc | apply pw_below_drewN | apply below_drew1 | refine below_set ?_ (IsS54.ge HI154.out)) | exact HB.out)); rintro e w15 ⟨rfl, hi, hb, hk⟩; refine ⟨_, rfl, ?_⟩; have n0_ := Aside0.mk (Kd.R_mono (R_keepB (IsS54.apart (show IsS54 w _ gb154 x155000_1 from by repeat (first | (with_reducible first | exact HI154.out | apply IsS54.alloc | apply IsS54.drewN | apply IsS54.drew) | exact HI154.out)) (by (with_reducible repeat (first | apply Kd.R_alloc | apply Kd.R_drewN | apply Kd.R_drew)); exact HO172.out) zb20) hk zb20) (fun _ h => h.1)); have n1_ := Aside0.mk (hb); have n2_ := Aside0.mk (hi); clear HO172; clear HB; clear HI154; have HO172 := n0_; have HB := n1_; have HI154 := n2_; clear n0_ n1_ n2_; (try clear hb); (try clear hk); (try clear hi))))
        try (with_reducible apply wp_label; go_wp2_with (first | ((with_reducible refine gate_callee (f := 35) rfl ?_); refine goesL_ (some 52) rfl rfl Tryz.func35 zb15 rfl #[.string t156] rfl zb1 ?_; (with_reducible refine (field_Parse.calls t156 t168 t169 t170 _ ?side1 A11.out).mono ?_); (case side1 => exact Glob.below hGA.out zb3); rintro e w14 ⟨v171, rfl, ho0, hb⟩; refine ⟨_, rfl, ?_⟩; have n0_ := Aside0.mk (Kd.R_lower ho0 (below_size zb3)); have n1_ := Aside0.mk (IsS54.below zb19 hb); have n2_ := Aside0.mk (below_step zb3 hb); clear HI154; clear HB; have HO172 := n0_; have HI154 := n1_; have HB := n2_; clear n0_ n1_ n2_; (try clear hb); (try clear hb2); (try clear hk); (try clear hi); (try clear ho0)) | ((with_reducible refine gate_callee (f := 29) rfl ?_); refine goesL_ (some 58) rfl rfl Tryz.func29 zb15 rfl #[.pointer (some ⟨gb154, 0, none⟩)] rfl zb1 ?_; (with_reducible refine (Builder_String.calls gb154 x155000_1 t173 t174 w _ ?side1 ?side2 A13.out).mono ?_); (case side1 => repeat (first | (with_reducible first | exact HI154.out | apply IsS54.alloc | apply IsS54.drewN | apply IsS54.drew) | exact HI154.out)); (case side2 => repeat (first | (with_reducible first | exact HB.out | apply below_alloc | apply pw_below_drewN | apply below_drew1 | refine below_set ?_ (IsS54.ge HI154.out)) | exact HB.out)); rintro e w15 ⟨rfl, hi, hb, hk⟩; refine ⟨_, rfl, ?_⟩; have n0_ := Aside0.mk (Kd.R_mono (R_keepB (IsS54.apart (show IsS54 w _ gb154 x155000_1 from by repeat (first | (with_reducible first | exact HI154.out | apply IsS54.alloc | apply IsS54.drewN | apply IsS54.drew) | exact HI154.out)) (by (with_reducible repeat (first | apply Kd.R_alloc | apply Kd.R_drewN | apply Kd.R_drew)); exact HO172.out) zb20) hk zb20) (fun _ h => h.1)); have n1_ := Aside0.mk (hb); have n2_ := Aside0.mk (hi); clear HO172; clear HB; clear HI154; have HO172 := n0_; have HB := n1_; have HI154 := n2_; clear n0_ n1_ n2_; (try clear hb); (try clear hk); (try clear hi))))
        try dsimp only [Exit.noGoto]
        go_ret3
        exact ⟨zb4, zb3⟩
       ·rw [if_neg c12] at H
        have c12b0 : (t170 == 0) = false := beq_eq_false_iff_ne.mpr c12
        have c12b1 : (t170 != 0) = true := bne_iff_ne.mpr c12
        simp only [Option.some.injEq, Prod.mk.injEq] at H
        obtain ⟨rfl, rfl, rfl⟩ := H
        go_wp2_with (first | ((with_reducible refine gate_callee (f := 35) rfl ?_); refine goesL_ (some 52) rfl rfl Tryz.func35 zb15 rfl #[.string t156] rfl zb1 ?_; (with_reducible refine (field_Parse.calls t156 t168 t169 t170 _ ?side1 A11.out).mono ?_); (case side1 => exact Glob.below hGA.out zb3); rintro e w16 ⟨v171, rfl, ho0, hb⟩; refine ⟨_, rfl, ?_⟩; have n0_ := Aside0.mk (Kd.R_lower ho0 (below_size zb3)); have n1_ := Aside0.mk (IsS54.below zb19 hb); have n2_ := Aside0.mk (below_step zb3 hb); clear HI154; clear HB; have HO172 := n0_; have HI154 := n1_; have HB := n2_; clear n0_ n1_ n2_; (try clear hb); (try clear hb2); (try clear hk); (try clear hi); (try clear ho0)))
        try (refine wp_scope_straight ?_; go_wp2_with (first | ((with_reducible refine gate_callee (f := 35) rfl ?_); refine goesL_ (some 52) rfl rfl Tryz.func35 zb15 rfl #[.string t156] rfl zb1 ?_; (with_reducible refine (field_Parse.calls t156 t168 t169 t170 _ ?side1 A11.out).mono ?_); (case side1 => exact Glob.below hGA.out zb3); rintro e w16 ⟨v171, rfl, ho0, hb⟩; refine ⟨_, rfl, ?_⟩; have n0_ := Aside0.mk (Kd.R_lower ho0 (below_size zb3)); have n1_ := Aside0.mk (IsS54.below zb19 hb); have n2_ := Aside0.mk (below_step zb3 hb); clear HI154; clear HB; have HO172 := n0_; have HI154 := n1_; have HB := n2_; clear n0_ n1_ n2_; (try clear hb); (try clear hb2); (try clear hk); (try clear hi); (try clear ho0))))
        try (with_reducible apply wp_label; go_wp2_with (first | ((with_reducible refine gate_callee (f := 35) rfl ?_); refine goesL_ (some 52) rfl rfl Tryz.func35 zb15 rfl #[.string t156] rfl zb1 ?_; (with_reducible refine (field_Parse.calls t156 t168 t169 t170 _ ?side1 A11.out).mono ?_); (case side1 => exact Glob.below hGA.out zb3); rintro e w16 ⟨v171, rfl, ho0, hb⟩; refine ⟨_, rfl, ?_⟩; have n0_ := Aside0.mk (Kd.R_lower ho0 (below_size zb3)); have n1_ := Aside0.mk (IsS54.below zb19 hb); have n2_ := Aside0.mk (below_step zb3 hb); clear HI154; clear HB; have HO172 := n0_; have HI154 := n1_; have HB := n2_; clear n0_ n1_ n2_; (try clear hb); (try clear hb2); (try clear hk); (try clear hi); (try clear ho0))))
        try dsimp only [Exit.noGoto]
        go_ret3
        exact ⟨zb4, zb3⟩
      ·rw [if_neg c10] at H
       have c10b0 : (t158 == 0) = false := beq_eq_false_iff_ne.mpr c10
       have c10b1 : (t158 != 0) = true := bne_iff_ne.mpr c10
       replace H := Option.bind_eq_some_iff.mp H
       obtain ⟨⟨t160, t161⟩, A170, H⟩ := H
       replace H : ((chunk_part.f t156 t158 t160).bind fun bt162 => (if bt162.2.2 = 0 then ((Builder_WriteString.f t161 bt162.1).bind fun bt165 => (chunk_Decode.l0 kj4 bt162.2.1 bt165.2.2)) else (some ((⟨#[]⟩ : ByteArray), (⟨#[]⟩ : ByteArray), bt162.2.2)))) = some (r1, r2, r3) := H
       have A17 := Aside0.mk A170
       clear A170
       replace H := Option.bind_eq_some_iff.mp H
       obtain ⟨⟨t162, t163, t164⟩, A180, H⟩ := H
       replace H : (if t164 = 0 then ((Builder_WriteString.f t161 t162).bind fun bt165 => (chunk_Decode.l0 kj4 t163 bt165.2.2)) else (some ((⟨#[]⟩ : ByteArray), (⟨#[]⟩ : ByteArray), t164))) = some (r1, r2, r3) := H
       have A18 := Aside0.mk A180
       clear A180
       by_cases c19 : t164 = 0
       ·rw [if_pos c19] at H
        have c19b0 : (t164 == 0) = true := beq_iff_eq.mpr c19
        have c19b1 : (t164 != 0) = false := bne_eq_false_iff_eq.mpr c19
        clear c19
        replace H := Option.bind_eq_some_iff.mp H
        obtain ⟨⟨t165, t166, t167⟩, A200, H⟩ := H
        replace H : (chunk_Decode.l0 kj4 t163 t167) = some (r1, r2, r3) := H
        have A20 := Aside0.mk A200
        clear A200
        have H' := Aside0.mk H
        clear H
        go_wp2_with (first | ((with_reducible refine gate_callee (f := 34) rfl ?_); refine goesL_ (some 39) rfl rfl Tryz.func34 zb15 rfl #[.pointer (some ⟨gb154, 0, none⟩)] rfl zb1 ?_; (with_reducible refine (Builder_Len.calls gb154 x155000_1 t160 t161 w _ ?side1 ?side2 A17.out).mono ?_); (case side1 => repeat (first | (with_reducible first | exact HI154.out | apply IsS54.alloc | apply IsS54.drewN | apply IsS54.drew) | exact HI154.out)); (case side2 => repeat (first | (with_reducible first | exact HB.out | apply below_alloc | apply pw_below_drewN | apply below_drew1 | refine below_set ?_ (IsS54.ge HI154.out)) | exact HB.out)); rintro e w21 ⟨rfl, hi, hb, hk⟩; refine ⟨_, rfl, ?_⟩; have n0_ := Aside0.mk (hb); have n1_ := Aside0.mk (hi); clear HB; clear HI154; have HB := n0_; have HI154 := n1_; clear n0_ n1_; (try clear hb); (try clear hk); (try clear hi)) | ((with_reducible refine gate_callee (f := 33) rfl ?_); refine goesL_ (some 40) rfl rfl Tryz.func33 zb15 rfl #[.string t156, .int .i64 t158, .int .i64 t160] rfl zb1 ?_; (with_reducible refine (chunk_part.calls t156 t158 t160 t162 t163 t164 _ A18.out).mono ?_); rintro e w' ⟨rfl, ⟨nd, rfl⟩⟩; refine ⟨_, rfl, ?_⟩) | ((with_reducible refine gate_callee (f := 27) rfl ?_); refine goesL_ (some 48) rfl rfl Tryz.func27 zb15 rfl #[.pointer (some ⟨gb154, 0, none⟩), .string t162] rfl zb1 ?_; (with_reducible refine (Builder_WriteString.calls gb154 t161 t162 t165 t166 t167 w _ ?side1 ?side2 A20.out).mono ?_); (case side1 => repeat (first | (with_reducible first | exact HI154.out | apply IsS54.alloc | apply IsS54.drewN | apply IsS54.drew) | exact HI154.out)); (case side2 => repeat (first | (with_reducible first | exact HB.out | apply below_alloc | apply pw_below_drewN | apply below_drew1 | refine below_set ?_ (IsS54.ge HI154.out)) | exact HB.out)); rintro e w22 ⟨rfl, hi, hb, hk⟩; refine ⟨_, rfl, ?_⟩; have n0_ := Aside0.mk (hb); have n1_ := Aside0.mk (hi); clear HB; clear HI154; have HB := n0_; have HI154 := n1_; clear n0_ n1_; (try clear hb); (try clear hk); (try clear hi); (try simp only [errW_none, errW_some])))
        try (refine wp_scope_straight ?_; go_wp2_with (first | ((with_reducible refine gate_callee (f := 34) rfl ?_); refine goesL_ (some 39) rfl rfl Tryz.func34 zb15 rfl #[.pointer (some ⟨gb154, 0, none⟩)] rfl zb1 ?_; (with_reducible refine (Builder_Len.calls gb154 x155000_1 t160 t161 w _ ?side1 ?side2 A17.out).mono ?_); (case side1 => repeat (first | (with_reducible first | exact HI154.out | apply IsS54.alloc | apply IsS54.drewN | apply IsS54.drew) | exact HI154.out)); (case side2 => repeat (first | (with_reducible first | exact HB.out | apply below_alloc | apply pw_below_drewN | apply below_drew1 | refine below_set ?_ (IsS54.ge HI154.out)) | exact HB.out)); rintro e w21 ⟨rfl, hi, hb, hk⟩; refine ⟨_, rfl, ?_⟩; have n0_ := Aside0.mk (hb); have n1_ := Aside0.mk (hi); clear HB; clear HI154; have HB := n0_; have HI154 := n1_; clear n0_ n1_; (try clear hb); (try clear hk); (try clear hi)) | ((with_reducible refine gate_callee (f := 33) rfl ?_); refine goesL_ (some 40) rfl rfl Tryz.func33 zb15 rfl #[.string t156, .int .i64 t158, .int .i64 t160] rfl zb1 ?_; (with_reducible refine (chunk_part.calls t156 t158 t160 t162 t163 t164 _ A18.out).mono ?_); rintro e w' ⟨rfl, ⟨nd, rfl⟩⟩; refine ⟨_, rfl, ?_⟩) | ((with_reducible refine gate_callee (f := 27) rfl ?_); refine goesL_ (some 48) rfl rfl Tryz.func27 zb15 rfl #[.pointer (some ⟨gb154, 0, none⟩), .string t162] rfl zb1 ?_; (with_reducible refine (Builder_WriteString.calls gb154 t161 t162 t165 t166 t167 w _ ?side1 ?side2 A20.out).mono ?_); (case side1 => repeat (first | (with_reducible first | exact HI154.out | apply IsS54.alloc | apply IsS54.drewN | apply IsS54.drew) | exact HI154.out)); (case side2 => repeat (first | (with_reducible first | exact HB.out | apply below_alloc | apply pw_below_drewN | apply below_drew1 | refine below_set ?_ (IsS54.ge HI154.out)) | exact HB.out)); rintro e w22 ⟨rfl, hi, hb, hk⟩; refine ⟨_, rfl, ?_⟩; have n0_ := Aside0.mk (hb); have n1_ := Aside0.mk (hi); clear HB; clear HI154; have HB := n0_; have HI154 := n1_; clear n0_ n1_; (try clear hb); (try clear hk); (try clear hi); (try simp only [errW_none, errW_some]))))
        try (with_reducible apply wp_label; go_wp2_with (first | ((with_reducible refine gate_callee (f := 34) rfl ?_); refine goesL_ (some 39) rfl rfl Tryz.func34 zb15 rfl #[.pointer (some ⟨gb154, 0, none⟩)] rfl zb1 ?_; (with_reducible refine (Builder_Len.calls gb154 x155000_1 t160 t161 w _ ?side1 ?side2 A17.out).mono ?_); (case side1 => repeat (first | (with_reducible first | exact HI154.out | apply IsS54.alloc | apply IsS54.drewN | apply IsS54.drew) | exact HI154.out)); (case side2 => repeat (first | (with_reducible first | exact HB.out | apply below_alloc | apply pw_below_drewN | apply below_drew1 | refine below_set ?_ (IsS54.ge HI154.out)) | exact HB.out)); rintro e w21 ⟨rfl, hi, hb, hk⟩; refine ⟨_, rfl, ?_⟩; have n0_ := Aside0.mk (hb); have n1_ := Aside0.mk (hi); clear HB; clear HI154; have HB := n0_; have HI154 := n1_; clear n0_ n1_; (try clear hb); (try clear hk); (try clear hi)) | ((with_reducible refine gate_callee (f := 33) rfl ?_); refine goesL_ (some 40) rfl rfl Tryz.func33 zb15 rfl #[.string t156, .int .i64 t158, .int .i64 t160] rfl zb1 ?_; (with_reducible refine (chunk_part.calls t156 t158 t160 t162 t163 t164 _ A18.out).mono ?_); rintro e w' ⟨rfl, ⟨nd, rfl⟩⟩; refine ⟨_, rfl, ?_⟩) | ((with_reducible refine gate_callee (f := 27) rfl ?_); refine goesL_ (some 48) rfl rfl Tryz.func27 zb15 rfl #[.pointer (some ⟨gb154, 0, none⟩), .string t162] rfl zb1 ?_; (with_reducible refine (Builder_WriteString.calls gb154 t161 t162 t165 t166 t167 w _ ?side1 ?side2 A20.out).mono ?_); (case side1 => repeat (first | (with_reducible first | exact HI154.out | apply IsS54.alloc | apply IsS54.drewN | apply IsS54.drew) | exact HI154.out)); (case side2 => repeat (first | (with_reducible first | exact HB.out | apply below_alloc | apply pw_below_drewN | apply below_drew1 | refine below_set ?_ (IsS54.ge HI154.out)) | exact HB.out)); rintro e w22 ⟨rfl, hi, hb, hk⟩; refine ⟨_, rfl, ?_⟩; have n0_ := Aside0.mk (hb); have n1_ := Aside0.mk (hi); clear HB; clear HI154; have HB := n0_; have HI154 := n1_; clear n0_ n1_; (try clear hb); (try clear hk); (try clear hi); (try simp only [errW_none, errW_some]))))
        go_roundg kj4
        case measure => have := HK1.out; have := HJ4.out; omega
        case rel => exact ⟨(t163), (t167), zb6, H', ⟨by have := HK1.out; have := HJ4.out; omega⟩, ⟨by repeat (first | (with_reducible first | exact HI154.out | apply IsS54.alloc | apply IsS54.drewN | apply IsS54.drew) | exact HI154.out)⟩, ⟨by repeat (first | (with_reducible first | exact HB.out | apply below_alloc | apply pw_below_drewN | apply below_drew1 | refine below_set ?_ (IsS54.ge HI154.out)) | exact HB.out)⟩⟩
       ·rw [if_neg c19] at H
        have c19b0 : (t164 == 0) = false := beq_eq_false_iff_ne.mpr c19
        have c19b1 : (t164 != 0) = true := bne_iff_ne.mpr c19
        simp only [Option.some.injEq, Prod.mk.injEq] at H
        obtain ⟨rfl, rfl, rfl⟩ := H
        go_wp2_with (first | ((with_reducible refine gate_callee (f := 34) rfl ?_); refine goesL_ (some 39) rfl rfl Tryz.func34 zb15 rfl #[.pointer (some ⟨gb154, 0, none⟩)] rfl zb1 ?_; (with_reducible refine (Builder_Len.calls gb154 x155000_1 t160 t161 w _ ?side1 ?side2 A17.out).mono ?_); (case side1 => repeat (first | (with_reducible first | exact HI154.out | apply IsS54.alloc | apply IsS54.drewN | apply IsS54.drew) | exact HI154.out)); (case side2 => repeat (first | (with_reducible first | exact HB.out | apply below_alloc | apply pw_below_drewN | apply below_drew1 | refine below_set ?_ (IsS54.ge HI154.out)) | exact HB.out)); rintro e w23 ⟨rfl, hi, hb, hk⟩; refine ⟨_, rfl, ?_⟩; have n0_ := Aside0.mk (hb); have n1_ := Aside0.mk (hi); clear HB; clear HI154; have HB := n0_; have HI154 := n1_; clear n0_ n1_; (try clear hb); (try clear hk); (try clear hi)) | ((with_reducible refine gate_callee (f := 33) rfl ?_); refine goesL_ (some 40) rfl rfl Tryz.func33 zb15 rfl #[.string t156, .int .i64 t158, .int .i64 t160] rfl zb1 ?_; (with_reducible refine (chunk_part.calls t156 t158 t160 t162 t163 t164 _ A18.out).mono ?_); rintro e w' ⟨rfl, ⟨nd, rfl⟩⟩; refine ⟨_, rfl, ?_⟩))
        try (refine wp_scope_straight ?_; go_wp2_with (first | ((with_reducible refine gate_callee (f := 34) rfl ?_); refine goesL_ (some 39) rfl rfl Tryz.func34 zb15 rfl #[.pointer (some ⟨gb154, 0, none⟩)] rfl zb1 ?_; (with_reducible refine (Builder_Len.calls gb154 x155000_1 t160 t161 w _ ?side1 ?side2 A17.out).mono ?_); (case side1 => repeat (first | (with_reducible first | exact HI154.out | apply IsS54.alloc | apply IsS54.drewN | apply IsS54.drew) | exact HI154.out)); (case side2 => repeat (first | (with_reducible first | exact HB.out | apply below_alloc | apply pw_below_drewN | apply below_drew1 | refine below_set ?_ (IsS54.ge HI154.out)) | exact HB.out)); rintro e w23 ⟨rfl, hi, hb, hk⟩; refine ⟨_, rfl, ?_⟩; have n0_ := Aside0.mk (hb); have n1_ := Aside0.mk (hi); clear HB; clear HI154; have HB := n0_; have HI154 := n1_; clear n0_ n1_; (try clear hb); (try clear hk); (try clear hi)) | ((with_reducible refine gate_callee (f := 33) rfl ?_); refine goesL_ (some 40) rfl rfl Tryz.func33 zb15 rfl #[.string t156, .int .i64 t158, .int .i64 t160] rfl zb1 ?_; (with_reducible refine (chunk_part.calls t156 t158 t160 t162 t163 t164 _ A18.out).mono ?_); rintro e w' ⟨rfl, ⟨nd, rfl⟩⟩; refine ⟨_, rfl, ?_⟩)))
        try (with_reducible apply wp_label; go_wp2_with (first | ((with_reducible refine gate_callee (f := 34) rfl ?_); refine goesL_ (some 39) rfl rfl Tryz.func34 zb15 rfl #[.pointer (some ⟨gb154, 0, none⟩)] rfl zb1 ?_; (with_reducible refine (Builder_Len.calls gb154 x155000_1 t160 t161 w _ ?side1 ?side2 A17.out).mono ?_); (case side1 => repeat (first | (with_reducible first | exact HI154.out | apply IsS54.alloc | apply IsS54.drewN | apply IsS54.drew) | exact HI154.out)); (case side2 => repeat (first | (with_reducible first | exact HB.out | apply below_alloc | apply pw_below_drewN | apply below_drew1 | refine below_set ?_ (IsS54.ge HI154.out)) | exact HB.out)); rintro e w23 ⟨rfl, hi, hb, hk⟩; refine ⟨_, rfl, ?_⟩; have n0_ := Aside0.mk (hb); have n1_ := Aside0.mk (hi); clear HB; clear HI154; have HB := n0_; have HI154 := n1_; clear n0_ n1_; (try clear hb); (try clear hk); (try clear hi)) | ((with_reducible refine gate_callee (f := 33) rfl ?_); refine goesL_ (some 40) rfl rfl Tryz.func33 zb15 rfl #[.string t156, .int .i64 t158, .int .i64 t160] rfl zb1 ?_; (with_reducible refine (chunk_part.calls t156 t158 t160 t162 t163 t164 _ A18.out).mono ?_); rintro e w' ⟨rfl, ⟨nd, rfl⟩⟩; refine ⟨_, rfl, ?_⟩)))
        try dsimp only [Exit.noGoto]
        go_ret3
        exact ⟨zb4, zb3⟩
end Go.Proofs.YteonhdfjfjpbjaaGreatDoor.P
/- Ochk -/
namespace Go.Proofs.YteonhdfjfjpbjaaGreatDoor.O
open Go.RowKit Go.Proofs.YteonhdfjfjpbjaaGreatDoorW.PrintWords Go.Proofs.YteonhdfjfjpbjaaGreatDoorW.PrintLast Go.Proofs.YteonhdfjfjpbjaaGreatDoorW.PrintMore Go.Proofs.YteonhdfjfjpbjaaGreatDoor.P
set_option linter.unusedVariables false
set_option linter.unusedSimpArgs false
/-- How a method of the parser ends: E; at 0 the body is B. -/
def Ends (g : Nat) (W : World) (m t v B : Value) (E : Int) (e : Ending) (W' : World) : Prop := e = .returned (.int .i64 E) ∧ Far g W W' ∧ (E = 0 → ∃ s' : Value, Par W' g s' m t v B)
def chE (lo d2 : ByteArray) (d3 : Int) : Int := if lo.toList = [99, 104, 117, 110, 107, 101, 100] then (if d3 = 0 then (if d2.toList = [] then 0 else 190) else d3) else 190
set_option maxHeartbeats 2000000 in
theorem chunked_in (g : Nat) (s how lo d1 d2 : ByteArray) (d3 : Int) (k : Nat) (m t v b : Value) (E : Int) (W : World) (hG : Glob W) (hP : Par W g (.string s) m t v b) (hL : media_Small.f how = some lo) (hD : chunk_Decode.f k s = some (d1, d2, d3)) (hE : chE lo d2 d3 = E) :
    Calls Tryz.prog 72 #[.pointer (some ⟨g, 0, none⟩), .string how] W (Ends g W m t v (.string d1) E) := by
  unfold Ends Par at *
  have hg : Hid (g < W.heap.size) := Lib.hid (blk_lt hP)
  have HL := Lib.hid (media_Small.calls how lo W hL)
  have HD := Lib.hid (fun W1 (hb : Below W.heap.size W W1) => chunk_Decode.calls k s d1 d2 d3 W1 (hG.below hb) hD)
  clear hL hD
  unfold chE at hE
  have hP' := Lib.hid hP
  clear hP
  by_cases h1 : lo.toList = [99, 104, 117, 110, 107, 101, 100]
  · rw [if_pos h1] at hE
    have h1a : (lo.toList == ([99, 104, 117, 110, 107, 101, 100] : List UInt8)) = true := beq_iff_eq.mpr h1
    clear h1
    by_cases h2 : d3 = 0
    · subst h2
      rw [if_pos rfl] at hE
      by_cases h3 : d2.toList = []
      · rw [if_pos h3] at hE
        subst hE
        have h3a : (d2.toList == ([] : List UInt8)) = true := beq_iff_eq.mpr h3
        clear h3
        go_enter Tryz.func72, Tryz.ntmps72
        go_wp2_with (first | (go_at_call 50; refine HL.out.mono ?_; rintro e w1 ⟨rfl, hb⟩; have c0 := (blk_cell (blk_below hP'.out hb) 0).trans rfl) | (go_at_call 12; refine (HD.out _ hb).mono ?_; rintro e w2 ⟨rfl, hb2⟩; have hB := Lib.hid (below_step hb hb2); have hP2 := Lib.hid (blk_below hP'.out hB.out); have c4 : w2.cell? ⟨g, 4, none⟩ = some b := (blk_cell hP2.out 4).trans rfl; have c1 : w2.cell? ⟨g, 0, none⟩ = some (.string s) := (blk_cell hP2.out 0).trans rfl; have f4 := blk_frozen hP2.out 4; have f0 := blk_frozen hP2.out 0))
        go_ret
        exact ⟨rfl, ((Far.of hB.out (Nat.le_of_lt hg.out)).trans (Far.set _ _ _ _)).trans (Far.set _ _ _ _), fun _ => ⟨_, blk_put (blk_put hP2.out 4 _ rfl) 0 _ rfl⟩⟩
      · rw [if_neg h3] at hE
        subst hE
        have h3a : (d2.toList == ([] : List UInt8)) = false := by simpa using h3
        go_enter Tryz.func72, Tryz.ntmps72
        go_wp2_with (first | (go_at_call 50; refine HL.out.mono ?_; rintro e w1 ⟨rfl, hb⟩; have c0 := (blk_cell (blk_below hP'.out hb) 0).trans rfl) | (go_at_call 12; refine (HD.out _ hb).mono ?_; rintro e w2 ⟨rfl, hb2⟩; have hB := Lib.hid (below_step hb hb2); have hP2 := Lib.hid (blk_below hP'.out hB.out); have c4 : w2.cell? ⟨g, 4, none⟩ = some b := (blk_cell hP2.out 4).trans rfl; have c1 : w2.cell? ⟨g, 0, none⟩ = some (.string s) := (blk_cell hP2.out 0).trans rfl; have f4 := blk_frozen hP2.out 4; have f0 := blk_frozen hP2.out 0))
        go_ret
        exact ⟨rfl, ((Far.of hB.out (Nat.le_of_lt hg.out)).trans (Far.set _ _ _ _)).trans (Far.set _ _ _ _), fun h => absurd h zb20⟩
    · rw [if_neg h2] at hE
      subst hE
      have h2a : (d3 == 0) = false := by simpa using h2
      have h2' := Lib.hid h2
      clear h2
      go_enter Tryz.func72, Tryz.ntmps72
      go_wp2_with (first | (go_at_call 50; refine HL.out.mono ?_; rintro e w1 ⟨rfl, hb⟩; have c0 := (blk_cell (blk_below hP'.out hb) 0).trans rfl) | (go_at_call 12; refine (HD.out _ hb).mono ?_; rintro e w2 ⟨rfl, hb2⟩; have hB := Lib.hid (below_step hb hb2); have hP2 := Lib.hid (blk_below hP'.out hB.out); have c4 : w2.cell? ⟨g, 4, none⟩ = some b := (blk_cell hP2.out 4).trans rfl; have c1 : w2.cell? ⟨g, 0, none⟩ = some (.string s) := (blk_cell hP2.out 0).trans rfl; have f4 := blk_frozen hP2.out 4; have f0 := blk_frozen hP2.out 0))
      go_ret
      exact ⟨rfl, ((Far.of hB.out (Nat.le_of_lt hg.out)).trans (Far.set _ _ _ _)).trans (Far.set _ _ _ _), fun h => absurd h h2'.out⟩
  · rw [if_neg h1] at hE
    subst hE
    have h1a : (lo.toList == ([99, 104, 117, 110, 107, 101, 100] : List UInt8)) = false := by simpa using h1
    go_enter Tryz.func72, Tryz.ntmps72
    go_wp2_with (go_at_call 50; refine HL.out.mono ?_; rintro e w1 ⟨rfl, hb⟩)
    go_ret
    exact ⟨rfl, (Far.of hb (Nat.le_of_lt hg.out)), fun h => absurd h zb20⟩
end Go.Proofs.YteonhdfjfjpbjaaGreatDoor.O
/- Ostr -/
namespace Go.Proofs.YteonhdfjfjpbjaaGreatDoor.O
open Go.RowKit Go.Proofs.YteonhdfjfjpbjaaGreatDoorW.PrintWords Go.Proofs.YteonhdfjfjpbjaaGreatDoorW.PrintLast Go.Proofs.YteonhdfjfjpbjaaGreatDoorW.PrintMore
set_option linter.unusedVariables false
set_option linter.unusedSimpArgs false
theorem encs_map {α : Type} (enc : α → Value) (xs : List α) : encs enc xs = xs.map enc := by simp [encs]
/-- A row of strings that was just laid. -/
theorem row_new (w : World) (e : TypeId) (xs : List ByteArray) (n : Nat) (hn : xs.length = n) (hm : n ≤ 9223372036854775807) :
    Kd.R Kd.string e (w.alloc (.cells (xs.map Value.string).toArray e)) w.heap.size (fun _ => True) (.slice (some ⟨w.heap.size, 0, none⟩) n n) xs := by
  subst hn
  refine Kd.R_of_own ?_ (fun _ _ => trivial)
  rw [encs_map]
  have h2 := World.ownsRow_lit (base := w.heap.size) (e := e) (size := 1) w (xs.map Value.string).toArray xs.length (Nat.le_refl _) (by simpa [maxLen] using hm) zb25
  simpa using h2
def strings_Split.f (a0 a1 : ByteArray) : Option (List ByteArray) := if a0.size < 4294967281 ∧ 1 ≤ a1.size then some (Lib.splitB a1 0 (Lib.countB a0 a1) a0) else none
theorem strings_Split.calls (a0 a1 : ByteArray) (r : List ByteArray) (w : World) (hG : Glob w) (h : strings_Split.f a0 a1 = some r) :
    Calls Tryz.prog 68 #[.string a0, .string a1] w fun e w' => ∃ v0_ : Value, e = .returned v0_ ∧ Kd.R Kd.string 9 w' w.heap.size (fun _ => True) v0_ r ∧ Below w.heap.size w w' := by
  unfold strings_Split.f at h
  split at h
  case isFalse => exact absurd h zb25
  rename_i hb
  obtain rfl := Option.some.inj h
  obtain ⟨m, hm⟩ := hG.cell
  refine (Tryz.strings_Split a0 a1 m w hb.1 hm hb.2).mono ?_
  rintro e w' ⟨rfl, rfl⟩
  have hl := Lib.splitB_all a1 hb.2 0 _ a0 rfl
  have hc := Lib.countB_le a1 hb.2 a0.size a0 (Nat.le_refl _)
  exact ⟨_, rfl, row_new w _ _ _ hl zb17, below_alloc (Below.refl _ _) _⟩
def joinB (l : List ByteArray) (sep : ByteArray) : List UInt8 := Lib.join (l.map (·.data.toList)) sep.data.toList
def strings_Join.f (l0 : List ByteArray) (a1 : ByteArray) : Option ByteArray := if l0.length ≤ 140737488355328 ∧ (joinB l0 a1).length ≤ 140737488355328 then some ⟨(joinB l0 a1).toArray⟩ else none
theorem strings_Join.calls (A0 : Option Addr) (c0 : Nat) (l0 : List ByteArray) (a1 : ByteArray) (r : ByteArray) (w : World) (hr0 : Kd.C Kd.string w A0 l0.length l0) (hc0 : l0.length ≤ c0) (h : strings_Join.f l0 a1 = some r) :
    Calls Tryz.prog 106 #[.slice A0 l0.length c0, .string a1] w fun e w' => e = .returned (.string r) ∧ Below w.heap.size w w' := by
  unfold strings_Join.f at h
  split at h
  case isFalse => exact absurd h zb25
  rename_i hb
  obtain rfl := Option.some.inj h
  rcases Nat.eq_zero_or_pos l0.length with h0 | h0
  · obtain rfl := List.eq_nil_of_length_eq_zero h0
    refine (Tryz.strings_Join_none A0 c0 a1 w).mono ?_
    rintro e w' ⟨rfl, rfl⟩
    exact ⟨rfl, Below.refl _ _⟩
  · obtain ⟨h1, h2, h3⟩ := Kd.reads_of_C (enc := Value.string) (d := ByteArray.empty) (h1 := fun _ => rfl) hr0
    obtain ⟨ad, rfl, hc⟩ := h3 h0
    have hc0' := hc 0 h0
    have hsp : ad.spot = none := by
      cases hs : ad.spot with
      | none => rfl
      | some q =>
        exfalso
        rw [show ad.add 0 = ad from rfl] at hc0'
        unfold World.cell? at hc0'
        rw [hs] at hc0'
        split at hc0' <;> simp at hc0'
    obtain ⟨bk, o, sp⟩ := ad
    simp only at hsp
    subst hsp
    have hcell : ∀ (j : Nat) x, l0[j]? = some x → w.cell? ⟨bk, o + j, none⟩ = some (.string x) := by
      intro j x hx
      obtain ⟨hl, hx'⟩ := List.getElem?_eq_some_iff.1 hx
      have := hc j hl
      rw [show (⟨bk, o, none⟩ : Addr).add j = ⟨bk, o + j, none⟩ from by unfold Addr.add; split <;> simp_all] at this
      rw [this, List.getD_eq_getElem?_getD, hx]
      rfl
    have hbk : bk < w.heap.size := World.block_lt_of_cell? w _ (hcell 0 _ (List.getElem?_eq_getElem h0))
    exact Tryz.strings_Join bk o c0 l0 a1 w hcell hbk hb.1 hc0 hb.2
end Go.Proofs.YteonhdfjfjpbjaaGreatDoor.O
/- Px15 -/
namespace Go.Proofs.YteonhdfjfjpbjaaGreatDoor.P
open Go.Proofs.YteonhdfjfjpbjaaGreatDoor.B
open Go.RowKit Go.Proofs.YteonhdfjfjpbjaaGreatDoorW.PrintWords Go.Proofs.YteonhdfjfjpbjaaGreatDoorW.PrintLast Go.Proofs.YteonhdfjfjpbjaaGreatDoorW.PrintMore
attribute [local go_sem] str_leq str_gtr str_geq max2_int min2_int max_two min_two max_three min_three max_four min_four
set_option linter.unusedVariables false
set_option linter.unusedSimpArgs false
open Go.Proofs.YteonhdfjfjpbjaaGreatDoor.O
def field_Get.l0 : Nat → ByteArray → List ByteArray → List (S49) → Int → Int → Option (ByteArray × Int)
  | 0, _, _, _, _, _ => none
  | k + 1, x1, x6, x10, x11, x12 => if x12 < x11 then (if 0 ≤ x12 then (if x12 < (x10.length : Int) then ((media_Small.f ((rd_T49 x10 x12).f0)).bind fun t181 => ((media_Small.f x1).bind fun t182 => (if t181.toList = t182.toList then (if x6.length < 8796093022208 then (field_Get.l0 k x1 (x6 ++ [(rd_T49 x10 x12).f1]) x10 x11 (wrap64 (x12 + 1))) else (none)) else (field_Get.l0 k x1 x6 x10 x11 (wrap64 (x12 + 1)))))) else (none)) else (none)) else ((strings_Join.f x6 (⟨#[44, 32]⟩ : ByteArray)).bind fun t178 => (some (t178, (x6.length : Int))))
def field_Get.f (k : Nat) (l0 : List (S49)) (a1 : ByteArray) : Option (ByteArray × Int) := field_Get.l0 k a1 (([] : List ByteArray)) l0 (l0.length : Int) 0
set_option maxHeartbeats 8000000 in
set_option maxRecDepth 100000 in
theorem field_Get.calls (k : Nat) (A0 : Option Addr) (c0 : Nat) (l0 : List (S49)) (a1 : ByteArray) (r1 : ByteArray) (r2 : Int) (w : World) (hr0 : Kd.C k49 w A0 l0.length l0) (hc0 : l0.length ≤ c0) (h : field_Get.f k l0 a1 = some (r1, r2)) :
  Calls Tryz.prog 71 #[.slice A0 l0.length c0, .string a1] w fun e w' => e = .returned (.tuple #[.string r1, .int .i64 r2]) ∧ Below w.heap.size w w' := by
 have hu49 := Tryz.underlying49
 have HR0 := Aside0.mk hr0
 have HC0 := Aside0.mk hc0
 clear hr0 hc0
 have HB := Aside0.mk (Below.refl w.heap.size w)
 have H : (field_Get.l0 k a1 (([] : List ByteArray)) l0 (l0.length : Int) 0) = some (r1, r2) := h
 clear h
 obtain ⟨y175, hy175⟩ : ∃ y_ : List ByteArray, y_ = (([] : List ByteArray)) := ⟨_, rfl⟩
 replace H : (field_Get.l0 k a1 y175 l0 (l0.length : Int) 0) = some (r1, r2) := by first | (rw [hy175]; with_reducible exact H) | (have H2_ := (Option.bind_some _ _).symm.trans H; rw [hy175]; with_reducible exact H2_) | (have H2_ := (Option.bind_some _ _).symm.trans H; with_reducible exact H2_) | with_reducible exact H | (rw [hy175]; exact H) | exact H
 have Ny175 := Aside0.mk hy175
 clear hy175
 have H' := Aside0.mk H
 clear H
 go_enter Tryz.func71, Tryz.ntmps71
 go_wp2_with (first | ((with_reducible refine gate_dst (N := 9) rfl ?_); refine Kd.R_lit Kd.string _ 9 ?hg (N := 9) ?hd (xs := ([] : List ByteArray)) (inner := []) (ok := fun _ => True) (okp := fun _ => True) ?hr ?hp (fun _ hk => hk) trivial (Below.refl _ _) (Nat.le_refl _) zb25 ?_; (case hd => rfl); (case hg => rfl); (case hr => first | (go_simp; done) | (go_simp; rfl)); (case hp => exact (Reps.none _ _)); intro v176 w3 ho4 hb hg_ hnew_; clear hg_ hnew_; (first | rw [← Ny175.out] at ho4 | (simp only [Int.reduceToNat] at ho4; rw [← Ny175.out] at ho4)); have n0_ := Aside0.mk (Kd.R_lower ho4 (below_size zb0)); have n1_ := Aside0.mk (below_step zb0 hb); clear HB; have HO177 := n0_; have HB := n1_; clear n0_ n1_; clear hb ho4))
 first | go_loopg [6, 12] k (fun kq v6 v12 w' => ∃ (x6_1 : List ByteArray) (x12_1 : Int), v12 = .int .i64 x12_1 ∧ Aside0 (field_Get.l0 kq a1 x6_1 l0 (l0.length : Int) x12_1 = some (r1, r2)) ∧ Aside0 (kq ≤ k) ∧ Aside0 (Kd.R Kd.string 9 w' w.heap.size (fun _ => True) v6 x6_1) ∧ Aside0 (Below w.heap.size w w')) | (go_simp; go_loopg [6, 12] k (fun kq v6 v12 w' => ∃ (x6_1 : List ByteArray) (x12_1 : Int), v12 = .int .i64 x12_1 ∧ Aside0 (field_Get.l0 kq a1 x6_1 l0 (l0.length : Int) x12_1 = some (r1, r2)) ∧ Aside0 (kq ≤ k) ∧ Aside0 (Kd.R Kd.string 9 w' w.heap.size (fun _ => True) v6 x6_1) ∧ Aside0 (Below w.heap.size w w')))
 case atStart => exact ⟨(y175), (0), zb6, H', ⟨Nat.le_refl _⟩, ⟨by (with_reducible repeat (first | apply Kd.R_alloc | apply Kd.R_drewN | apply Kd.R_drew)); exact HO177.out⟩, ⟨by repeat (first | (with_reducible first | exact HB.out | apply below_alloc | apply pw_below_drewN | apply below_drew1) | exact HB.out)⟩⟩
 case round =>
  clear H'
  try clear p2
  obtain ⟨x6_1, x12_1, rfl, HA, HK1, HO_6, HB⟩ := hrel
  cases gk with
  | zero => exact absurd HA.out (by simp [field_Get.l0])
  | succ k1 =>
   have H := HA.out
   clear HA
   simp only [field_Get.l0] at H
   by_cases c5 : x12_1 < (l0.length : Int)
   ·rw [if_pos c5] at H
    have c5b0 : decide (x12_1 < (l0.length : Int)) = true := decide_eq_true c5
    clear c5
    by_cases c6 : 0 ≤ x12_1
    ·rw [if_pos c6] at H
     have c6b0 : decide (0 ≤ x12_1) = true := decide_eq_true c6
     clear c6
     by_cases c7 : x12_1 < (l0.length : Int)
     ·rw [if_pos c7] at H
      have c7b0 : decide (x12_1 < (l0.length : Int)) = true := decide_eq_true c7
      clear c7
      replace H := Option.bind_eq_some_iff.mp H
      obtain ⟨t181, A80, H⟩ := H
      replace H : ((media_Small.f a1).bind fun t182 => (if t181.toList = t182.toList then (if x6_1.length < 8796093022208 then (field_Get.l0 k1 a1 (x6_1 ++ [(rd_T49 l0 x12_1).f1]) l0 (l0.length : Int) (wrap64 (x12_1 + 1))) else (none)) else (field_Get.l0 k1 a1 x6_1 l0 (l0.length : Int) (wrap64 (x12_1 + 1))))) = some (r1, r2) := H
      have A8 := Aside0.mk A80
      clear A80
      replace H := Option.bind_eq_some_iff.mp H
      obtain ⟨t182, A90, H⟩ := H
      replace H : (if t181.toList = t182.toList then (if x6_1.length < 8796093022208 then (field_Get.l0 k1 a1 (x6_1 ++ [(rd_T49 l0 x12_1).f1]) l0 (l0.length : Int) (wrap64 (x12_1 + 1))) else (none)) else (field_Get.l0 k1 a1 x6_1 l0 (l0.length : Int) (wrap64 (x12_1 + 1)))) = some (r1, r2) := H
      have A9 := Aside0.mk A90
      clear A90
      by_cases c10 : t181.toList = t182.toList
      ·rw [if_pos c10] at H
       have c10b0 : (t181.toList == t182.toList) = true := beq_iff_eq.mpr c10
       have c10b1 : (t181.toList != t182.toList) = false := bne_eq_false_iff_eq.mpr c10
       clear c10
       by_cases c11 : x6_1.length < 8796093022208
       ·rw [if_pos c11] at H
        have LMc11 := Aside0.mk c11
        clear c11
        obtain ⟨y183, hy183⟩ : ∃ y_ : List ByteArray, y_ = (x6_1 ++ [(rd_T49 l0 x12_1).f1]) := ⟨_, rfl⟩
        replace H : (field_Get.l0 k1 a1 y183 l0 (l0.length : Int) (wrap64 (x12_1 + 1))) = some (r1, r2) := by first | (rw [hy183]; with_reducible exact H) | (have H2_ := (Option.bind_some _ _).symm.trans H; rw [hy183]; with_reducible exact H2_) | (have H2_ := (Option.bind_some _ _).symm.trans H; with_reducible exact H2_) | with_reducible exact H | (rw [hy183]; exact H) | exact H
        have Ny183 := Aside0.mk hy183
        clear hy183
        have H' := Aside0.mk H
        clear H
        have p179 : 0 ≤ (x12_1 : Int) := of_decide_eq_true zb2
        have q179 : x12_1 < (l0.length : Int) := of_decide_eq_true zb2
        obtain ⟨ad179, e179, hx179_0, hx179_1⟩ := at_T49 HR0.out x12_1 p179 q179
        cases e179
        replace hx179_0 := (HB.out.cell (World.block_lt_of_cell? w _ hx179_0)).trans hx179_0
        replace hx179_1 := (HB.out.cell (World.block_lt_of_cell? w _ hx179_1)).trans hx179_1
        replace p179 := eq_true p179
        replace q179 := eq_true q179
        go_wp2_with (first | ((with_reducible refine gate_dst (N := 8) rfl ?_); refine box_event ?hg (N := 8) ?hd (cs := #[.string (⟨#[]⟩ : ByteArray), .string (⟨#[]⟩ : ByteArray)]) (t := 49) ?hr ?_; (case hd => rfl); (case hg => rfl); (case hr => first | (go_simp; done) | (go_simp; rfl)); intro gb180 hg w12 hbox hb; have n0_ := Aside0.mk (Kd.R_below zb29 hb); have n1_ := Aside0.mk (below_step zb0 hb); have n2_ := Aside0.mk (hbox); have n3_ := Aside0.mk ((by rw [hg]; exact (below_size zb0) : w.heap.size ≤ gb180)); have n4_ := Aside0.mk ((by rw [hg]; exact (below_size zb0) : w.heap.size ≤ gb180)); clear HO_6; clear HB; have HO_6 := n0_; have HB := n1_; have BK180 := n2_; have GW180 := n3_; have GE180 := n4_; clear n0_ n1_ n2_ n3_ n4_; clear hb hbox hg; have hcz13_0 : w12.cell? ⟨gb180, 0, none⟩ = some (.string (⟨#[]⟩ : ByteArray)) := (blk_cell BK180.out 0).trans rfl; have hcz13_1 : w12.cell? ⟨gb180, 1, none⟩ = some (.string (⟨#[]⟩ : ByteArray)) := (blk_cell BK180.out 1).trans rfl; have hfz13_0 := blk_frozen BK180.out 0; have hfz13_1 := blk_frozen BK180.out 1) | ((with_reducible refine gate_callee (f := 50) rfl ?_); refine goesL_ (some 18) rfl rfl Tryz.func50 zb15 rfl #[.string ((rd_T49 l0 x12_1).f0)] rfl zb1 ?_; (with_reducible refine (media_Small.calls ((rd_T49 l0 x12_1).f0) t181 _ A8.out).mono ?_); rintro e w14 ⟨rfl, hb⟩; refine ⟨_, rfl, ?_⟩; have n0_ := Aside0.mk (Kd.R_below zb36 hb); have n1_ := Aside0.mk (blk_below (g := gb180) (o := .cells #[.string ((rd_T49 l0 x12_1).f0), .string ((rd_T49 l0 x12_1).f1)] 49 (0, 0)) zb27 hb); have n2_ := Aside0.mk (below_step zb23 hb); clear HO_6; clear BK180; clear HB; have HO_6 := n0_; have BK180 := n1_; have HB := n2_; clear n0_ n1_ n2_; (try clear hb); (try clear hb2); (try clear hk); (try clear hi)) | ((with_reducible refine gate_callee (f := 50) rfl ?_); refine goesL_ (some 20) rfl rfl Tryz.func50 zb15 rfl #[.string a1] rfl zb1 ?_; (with_reducible refine (media_Small.calls a1 t182 _ A9.out).mono ?_); rintro e w15 ⟨rfl, hb⟩; refine ⟨_, rfl, ?_⟩; have n0_ := Aside0.mk (Kd.R_below zb29 hb); have n1_ := Aside0.mk (blk_below (g := gb180) (o := .cells #[.string ((rd_T49 l0 x12_1).f0), .string ((rd_T49 l0 x12_1).f1)] 49 (0, 0)) zb42 hb); have n2_ := Aside0.mk (below_step zb23 hb); clear HO_6; clear BK180; clear HB; have HO_6 := n0_; have BK180 := n1_; have HB := n2_; clear n0_ n1_ n2_; (try clear hb); (try clear hb2); (try clear hk); (try clear hi); have hcz16_0 : w15.cell? ⟨gb180, 0, none⟩ = some (.string ((rd_T49 l0 x12_1).f0)) := (blk_cell BK180.out 0).trans rfl; have hcz16_1 : w15.cell? ⟨gb180, 1, none⟩ = some (.string ((rd_T49 l0 x12_1).f1)) := (blk_cell BK180.out 1).trans rfl; have hfz16_0 := blk_frozen BK180.out 0; have hfz16_1 := blk_frozen BK180.out 1) | ((with_reducible refine gate_builtin (b := .append) (xs := #[.tmp 22, .tmp 25]) rfl ?_); at_builtin; refine Kd.R_append Kd.string (w0 := w) w.heap.size rfl (.tmp 22) (.tmp 25) 32 9 (.string ⟨#[]⟩) 16 rfl Tryz.underlying32 info9 rfl zb20 zb17 u6 x6_1 ((rd_T49 l0 x12_1).f1) [.string ((rd_T49 l0 x12_1).f1)] (fun _ => True) (fun _ => False) rfl rfl ?aP (fun _ hk => hk.elim) ?aF ?aO ?aB ?aS ?aL ?_; (case aP => exact rfl); (case aB => exact zb23); (case aF => exact (fun _ _ => trivial)); (case aO => exact zb29); (case aS => exact (below_size zb23)); (case aL => have := LMc11.out; omega); intro v184 w17 ho hb hg hat; rw [← Ny183.out] at ho; have n0_ := Aside0.mk (blk_grown (g := gb180) (o := .cells #[.string ((rd_T49 l0 x12_1).f0), .string ((rd_T49 l0 x12_1).f1)] 49 (0, 0)) zb42 hg (Kd.R_ne HO_6.out BK180.out zb20)); have n1_ := Aside0.mk (hb); have n2_ := Aside0.mk (ho); clear BK180; clear HB; clear HO_6; have BK180 := n0_; have HB := n1_; have HO185 := n2_; clear n0_ n1_ n2_; clear ho hb hg hat))
        go_roundg k1
        case measure => have := HK1.out; omega
        case rel => exact ⟨(y183), (wrap64 (x12_1 + 1)), zb6, H', ⟨by have := HK1.out; omega⟩, ⟨by (with_reducible repeat (first | apply Kd.R_alloc | apply Kd.R_drewN | apply Kd.R_drew)); exact HO185.out⟩, ⟨by repeat (first | (with_reducible first | exact HB.out | apply below_alloc | apply pw_below_drewN | apply below_drew1 | refine below_set ?_ GE180.out) | exact HB.out)⟩⟩
       ·rw [if_neg c11] at H
        exact absurd H zb25
      ·rw [if_neg c10] at H
       have c10b0 : (t181.toList == t182.toList) = false := beq_eq_false_iff_ne.mpr c10
       have c10b1 : (t181.toList != t182.toList) = true := bne_iff_ne.mpr c10
       have H' := Aside0.mk H
       clear H
       have p179 : 0 ≤ (x12_1 : Int) := of_decide_eq_true zb2
       have q179 : x12_1 < (l0.length : Int) := of_decide_eq_true zb2
       obtain ⟨ad179, e179, hx179_0, hx179_1⟩ := at_T49 HR0.out x12_1 p179 q179
       cases e179
       replace hx179_0 := (HB.out.cell (World.block_lt_of_cell? w _ hx179_0)).trans hx179_0
       replace hx179_1 := (HB.out.cell (World.block_lt_of_cell? w _ hx179_1)).trans hx179_1
       replace p179 := eq_true p179
       replace q179 := eq_true q179
       go_wp2_with (first | ((with_reducible refine gate_dst (N := 8) rfl ?_); refine box_event ?hg (N := 8) ?hd (cs := #[.string (⟨#[]⟩ : ByteArray), .string (⟨#[]⟩ : ByteArray)]) (t := 49) ?hr ?_; (case hd => rfl); (case hg => rfl); (case hr => first | (go_simp; done) | (go_simp; rfl)); intro gb180 hg w18 hbox hb; have n0_ := Aside0.mk (Kd.R_below zb29 hb); have n1_ := Aside0.mk (below_step zb0 hb); have n2_ := Aside0.mk (hbox); have n3_ := Aside0.mk ((by rw [hg]; exact (below_size zb0) : w.heap.size ≤ gb180)); have n4_ := Aside0.mk ((by rw [hg]; exact (below_size zb0) : w.heap.size ≤ gb180)); clear HO_6; clear HB; have HO_6 := n0_; have HB := n1_; have BK180 := n2_; have GW180 := n3_; have GE180 := n4_; clear n0_ n1_ n2_ n3_ n4_; clear hb hbox hg; have hcz19_0 : w18.cell? ⟨gb180, 0, none⟩ = some (.string (⟨#[]⟩ : ByteArray)) := (blk_cell BK180.out 0).trans rfl; have hcz19_1 : w18.cell? ⟨gb180, 1, none⟩ = some (.string (⟨#[]⟩ : ByteArray)) := (blk_cell BK180.out 1).trans rfl; have hfz19_0 := blk_frozen BK180.out 0; have hfz19_1 := blk_frozen BK180.out 1) | ((with_reducible refine gate_callee (f := 50) rfl ?_); refine goesL_ (some 18) rfl rfl Tryz.func50 zb15 rfl #[.string ((rd_T49 l0 x12_1).f0)] rfl zb1 ?_; (with_reducible refine (media_Small.calls ((rd_T49 l0 x12_1).f0) t181 _ A8.out).mono ?_); rintro e w20 ⟨rfl, hb⟩; refine ⟨_, rfl, ?_⟩; have n0_ := Aside0.mk (Kd.R_below zb36 hb); have n1_ := Aside0.mk (blk_below (g := gb180) (o := .cells #[.string ((rd_T49 l0 x12_1).f0), .string ((rd_T49 l0 x12_1).f1)] 49 (0, 0)) zb27 hb); have n2_ := Aside0.mk (below_step zb23 hb); clear HO_6; clear BK180; clear HB; have HO_6 := n0_; have BK180 := n1_; have HB := n2_; clear n0_ n1_ n2_; (try clear hb); (try clear hb2); (try clear hk); (try clear hi)) | ((with_reducible refine gate_callee (f := 50) rfl ?_); refine goesL_ (some 20) rfl rfl Tryz.func50 zb15 rfl #[.string a1] rfl zb1 ?_; (with_reducible refine (media_Small.calls a1 t182 _ A9.out).mono ?_); rintro e w21 ⟨rfl, hb⟩; refine ⟨_, rfl, ?_⟩; have n0_ := Aside0.mk (Kd.R_below zb29 hb); have n1_ := Aside0.mk (blk_below (g := gb180) (o := .cells #[.string ((rd_T49 l0 x12_1).f0), .string ((rd_T49 l0 x12_1).f1)] 49 (0, 0)) zb42 hb); have n2_ := Aside0.mk (below_step zb23 hb); clear HO_6; clear BK180; clear HB; have HO_6 := n0_; have BK180 := n1_; have HB := n2_; clear n0_ n1_ n2_; (try clear hb); (try clear hb2); (try clear hk); (try clear hi)))
       go_roundg k1
       case measure => have := HK1.out; omega
       case rel => exact ⟨(x6_1), (wrap64 (x12_1 + 1)), zb6, H', ⟨by have := HK1.out; omega⟩, ⟨by (with_reducible repeat (first | apply Kd.R_alloc | apply Kd.R_drewN | apply Kd.R_drew)); exact HO_6.out⟩, ⟨by repeat (first | (with_reducible first | exact HB.out | apply below_alloc | apply pw_below_drewN | apply below_drew1 | refine below_set ?_ GE180.out) | exact HB.out)⟩⟩
     ·rw [if_neg c7] at H
      exact absurd H zb25
    ·rw [if_neg c6] at H
     exact absurd H zb25
   ·rw [if_neg c5] at H
    have c5b0 : decide (x12_1 < (l0.length : Int)) = false := decide_eq_false c5
    clear c5
    replace H := Option.bind_eq_some_iff.mp H
    obtain ⟨t178, A220, H⟩ := H
    replace H : (some (t178, (x6_1.length : Int))) = some (r1, r2) := H
    have A22 := Aside0.mk A220
    clear A220
    simp only [Option.some.injEq, Prod.mk.injEq] at H
    obtain ⟨rfl, rfl⟩ := H
    obtain ⟨Ao23, co23, eo23⟩ := Kd.R_slice HO_6.out
    subst eo23
    go_wp2_with (first | ((with_reducible refine gate_callee (f := 106) rfl ?_); refine goesL_ (some 29) rfl rfl Tryz.func106 zb15 rfl #[.slice Ao23 x6_1.length co23, .string (⟨#[44, 32]⟩ : ByteArray)] rfl zb1 ?_; (with_reducible refine (strings_Join.calls _ _ x6_1 (⟨#[44, 32]⟩ : ByteArray) t178 _ ?side1 ?side2 A22.out).mono ?_); (case side1 => repeat (first | exact (Kd.R_reads' HO_6.out).2.2 | (with_reducible refine Kd.C_alloc ?_ _) | (with_reducible refine Kd.C_drewN ?_ _) | (with_reducible refine Kd.C_drew ?_))); (case side2 => exact (Kd.R_reads' HO_6.out).2.1); rintro e w24 ⟨rfl, hb⟩; refine ⟨_, rfl, ?_⟩; have n0_ := Aside0.mk (Kd.R_below zb29 hb); have n1_ := Aside0.mk (below_step zb0 hb); clear HO_6; clear HB; have HO_6 := n0_; have HB := n1_; clear n0_ n1_; (try clear hb); (try clear hb2); (try clear hk); (try clear hi)))
    go_ret2
    exact ⟨zb4, zb0⟩
end Go.Proofs.YteonhdfjfjpbjaaGreatDoor.P
/- Ohed -/
namespace Go.Proofs.YteonhdfjfjpbjaaGreatDoor.O
open Go.RowKit Go.Proofs.YteonhdfjfjpbjaaGreatDoorW.PrintWords Go.Proofs.YteonhdfjfjpbjaaGreatDoorW.PrintLast Go.Proofs.YteonhdfjfjpbjaaGreatDoorW.PrintMore Go.Proofs.YteonhdfjfjpbjaaGreatDoor.P
set_option linter.unusedVariables false
set_option linter.unusedSimpArgs false
def heE (n e : Int) : Int := if e = 0 then (if n = 1 then 0 else 180) else e
set_option maxHeartbeats 2000000 in
theorem head_in (g : Nat) (s r x : ByteArray) (l : List S49) (e0 n : Int) (k : Nat) (m t v b : Value) (E : Int) (W : World) (hG : Glob W) (hP : Par W g (.string s) m t v b) (hF : field_Parse.f s = some (l, r, e0)) (hT : e0 = 0 → field_Get.f k l ⟨#[104, 111, 115, 116]⟩ = some (x, n)) (hE : heE n e0 = E) :
    Calls Tryz.prog 41 #[.pointer (some ⟨g, 0, none⟩)] W fun e W' => e = .returned (.int .i64 E) ∧ Far g W W' ∧ (E = 0 → ∃ v' : Value, Par W' g (.string r) m t v' b ∧ Kd.R k49 49 W' W.heap.size (fun _ => True) v' l) := by
  unfold Par at *
  have hg : Hid (g < W.heap.size) := Lib.hid (blk_lt hP)
  have HF := Lib.hid (field_Parse.calls s l r e0 W hG hF)
  have HT := Lib.hid (fun (h0 : e0 = 0) (A : Option Addr) (c : Nat) W1 (hc : Kd.C k49 W1 A l.length l) (hl : l.length ≤ c) => field_Get.calls k A c l ⟨#[104, 111, 115, 116]⟩ x n W1 hc hl (hT h0))
  clear hF hT
  unfold heE at hE
  have c0 : W.cell? ⟨g, 0, none⟩ = some (.string s) := (blk_cell hP 0).trans rfl
  have hP' := Lib.hid hP
  clear hP
  by_cases h1 : e0 = 0
  · subst h1
    rw [if_pos rfl] at hE
    replace HT := Lib.hid (HT.out rfl)
    by_cases h2 : n = 1
    · subst h2
      rw [if_pos rfl] at hE
      subst hE
      go_enter Tryz.func41, Tryz.ntmps41
      go_wp2_with (first | (go_at_call 35; refine HF.out.mono ?_; rintro e w1 ⟨v1, rfl, ho, hb⟩; obtain ⟨A, c, rfl⟩ := Kd.R_slice ho; have hO := Lib.hid ho; clear ho; have hB := Lib.hid hb; clear hb; have hP2 := Lib.hid (blk_below hP'.out hB.out); have c3 : w1.cell? ⟨g, 3, none⟩ = some v := (blk_cell hP2.out 3).trans rfl; have c1 : w1.cell? ⟨g, 0, none⟩ = some (.string s) := (blk_cell hP2.out 0).trans rfl; have f3 := blk_frozen hP2.out 3; have f0 := blk_frozen hP2.out 0; have hO2 := Lib.hid (Kd.R_set (Kd.R_set hO.out hP2.out zb20 3 (.slice A l.length c)) (blk_put hP2.out 3 _ rfl) zb20 0 (.string r)); have hP3 := Lib.hid (blk_put (blk_put hP2.out 3 (.slice A l.length c) rfl) 0 (.string r) rfl)) | (go_at_call 71; refine (HT.out _ _ _ (Kd.R_reads' hO2.out).2.2 (Kd.R_reads' hO2.out).2.1).mono ?_; rintro e w2 ⟨rfl, hb2⟩; have hB2 := Lib.hid hb2; clear hb2))
      go_ret
      have hF1 := ((Far.of hB.out (Nat.le_of_lt hg.out)).trans (Far.set _ _ 3 (.slice A l.length c))).trans (Far.set _ _ 0 (.string r))
      exact ⟨rfl, hF1.trans (Far.of hB2.out (Nat.le_trans (Nat.le_of_lt hg.out) hF1.size)), fun _ => ⟨_, blk_below hP3.out hB2.out, Kd.R_below hO2.out hB2.out⟩⟩
    · rw [if_neg h2] at hE
      subst hE
      have h2a : (n == 1) = false := by simpa using h2
      clear h2
      go_enter Tryz.func41, Tryz.ntmps41
      go_wp2_with (first | (go_at_call 35; refine HF.out.mono ?_; rintro e w1 ⟨v1, rfl, ho, hb⟩; obtain ⟨A, c, rfl⟩ := Kd.R_slice ho; have hO := Lib.hid ho; clear ho; have hB := Lib.hid hb; clear hb; have hP2 := Lib.hid (blk_below hP'.out hB.out); have c3 : w1.cell? ⟨g, 3, none⟩ = some v := (blk_cell hP2.out 3).trans rfl; have c1 : w1.cell? ⟨g, 0, none⟩ = some (.string s) := (blk_cell hP2.out 0).trans rfl; have f3 := blk_frozen hP2.out 3; have f0 := blk_frozen hP2.out 0; have hO2 := Lib.hid (Kd.R_set (Kd.R_set hO.out hP2.out zb20 3 (.slice A l.length c)) (blk_put hP2.out 3 _ rfl) zb20 0 (.string r)); have hP3 := Lib.hid (blk_put (blk_put hP2.out 3 (.slice A l.length c) rfl) 0 (.string r) rfl)) | (go_at_call 71; refine (HT.out _ _ _ (Kd.R_reads' hO2.out).2.2 (Kd.R_reads' hO2.out).2.1).mono ?_; rintro e w2 ⟨rfl, hb2⟩; have hB2 := Lib.hid hb2; clear hb2))
      go_ret
      have hF1 := ((Far.of hB.out (Nat.le_of_lt hg.out)).trans (Far.set _ _ 3 (.slice A l.length c))).trans (Far.set _ _ 0 (.string r))
      exact ⟨rfl, hF1.trans (Far.of hB2.out (Nat.le_trans (Nat.le_of_lt hg.out) hF1.size)), fun h => absurd h zb20⟩
  · rw [if_neg h1] at hE
    subst hE
    have h1a : (e0 == 0) = false := by simpa using h1
    have h1' := Lib.hid h1
    clear h1
    go_enter Tryz.func41, Tryz.ntmps41
    go_wp2_with (go_at_call 35; refine HF.out.mono ?_; rintro e w1 ⟨v1, rfl, ho, hb⟩; obtain ⟨A, c, rfl⟩ := Kd.R_slice ho; have hO := Lib.hid ho; clear ho; have hB := Lib.hid hb; clear hb; have hP2 := Lib.hid (blk_below hP'.out hB.out); have c3 : w1.cell? ⟨g, 3, none⟩ = some v := (blk_cell hP2.out 3).trans rfl; have c1 : w1.cell? ⟨g, 0, none⟩ = some (.string s) := (blk_cell hP2.out 0).trans rfl; have f3 := blk_frozen hP2.out 3; have f0 := blk_frozen hP2.out 0)
    go_ret
    exact ⟨rfl, ((Far.of hB.out (Nat.le_of_lt hg.out)).trans (Far.set _ _ 3 (.slice A l.length c))).trans (Far.set _ _ 0 (.string r)), fun h => absurd h h1'.out⟩
def boE (n m cE sE : Int) (s : ByteArray) : Int := if 1 < n ∨ (0 < n ∧ 0 < m) then 190 else if 0 < m then cE else if 0 < n then sE else if s.toList = [] then 0 else 190
def boB (n m : Int) (s d1 : ByteArray) : ByteArray := if 0 < m then d1 else if 0 < n then s else ⟨#[]⟩
set_option maxHeartbeats 2000000 in
theorem body_in (g base : Nat) (s long how lo d1 d2 : ByteArray) (l : List S49) (n m d3 : Int) (k : Nat) (mv t v : Value) (E : Int) (W : World) (hG : Glob W) (hP : Par W g (.string s) mv t v (.string ⟨#[]⟩)) (hO : Kd.R k49 49 W base (fun _ => True) v l)
    (hT1 : field_Get.f k l ⟨#[99, 111, 110, 116, 101, 110, 116, 45, 108, 101, 110, 103, 116, 104]⟩ = some (long, n)) (hT2 : field_Get.f k l ⟨#[116, 114, 97, 110, 115, 102, 101, 114, 45, 101, 110, 99, 111, 100, 105, 110, 103]⟩ = some (how, m))
    (hL : media_Small.f how = some lo) (hD : chunk_Decode.f k s = some (d1, d2, d3)) (hs : s.size < 4294967281) (hl : long.size ≤ 281474976710656) (hE : boE n m (chE lo d2 d3) (sizedE s long) s = E) :
    Calls Tryz.prog 42 #[.pointer (some ⟨g, 0, none⟩)] W (Ends g W mv t v (.string (boB n m s d1)) E) := by
  have hg : Hid (g < W.heap.size) := Lib.hid (blk_lt (show W.heap[g]? = some (.cells #[.string s, mv, t, v, .string ⟨#[]⟩] 76 (0, 0)) from hP))
  obtain ⟨A, c, rfl⟩ := Kd.R_slice hO
  obtain ⟨_, hlc, hC⟩ := Kd.R_reads' hO
  have H1 := Lib.hid (field_Get.calls k A c l _ long n W hC hlc hT1)
  have H2 := Lib.hid (fun W1 (hb : Below W.heap.size W W1) => field_Get.calls k A c l _ how m W1 (Kd.C_below hC hb) hlc hT2)
  have H3 := Lib.hid (fun W1 (hb : Below W.heap.size W W1) => chunked_in g s how lo d1 d2 d3 k mv t (.slice A l.length c) (.string ⟨#[]⟩) _ W1 (hG.below hb) (blk_below hP hb) hL hD rfl)
  have H4 := Lib.hid (fun W1 (hb : Below W.heap.size W W1) => sized_in g s long mv t (.slice A l.length c) (.string ⟨#[]⟩) _ _ W1 (hG.below hb) hl hs (blk_below hP hb) rfl rfl)
  unfold Par at hP
  have c3 : W.cell? ⟨g, 3, none⟩ = some (.slice A l.length c) := (blk_cell hP 3).trans rfl
  have hP' := Lib.hid hP
  clear hP hO hlc hC hT1 hT2 hL hD hl hs hG
  unfold boE at hE
  obtain ⟨Bq, hBq⟩ : ∃ Bq, Bq = boB n m s d1 := ⟨_, rfl⟩
  rw [← hBq]
  unfold boB at hBq
  generalize chE lo d2 d3 = cE at *
  generalize sizedE s long = sE at *
  by_cases h1 : 1 < n
  · rw [if_pos (Or.inl h1)] at hE
    subst hE
    clear hBq
    go_enter Tryz.func42, Tryz.ntmps42
    go_wp2_with (first | (go_at_call 71; first | (refine H2.out _ hB.out |>.mono ?_; rintro e w2 ⟨rfl, hb2⟩; have hB2 := Lib.hid (below_step hB.out hb2); clear hb2; have c0 : w2.cell? ⟨g, 0, none⟩ = some (.string s) := (blk_cell (blk_below hP'.out hB2.out) 0).trans rfl) | (refine H1.out.mono ?_; rintro e w1 ⟨rfl, hb⟩; have hB := Lib.hid hb; clear hb; have c3' : w1.cell? ⟨g, 3, none⟩ = some (.slice A l.length c) := (blk_cell (blk_below hP'.out hB.out) 3).trans rfl)))
    go_ret
    exact ⟨rfl, Far.of hB2.out (Nat.le_of_lt hg.out), fun h => absurd h zb20⟩
  · by_cases h2 : 0 < n
    · by_cases h3 : 0 < m
      · rw [if_pos (Or.inr ⟨h2, h3⟩)] at hE
        subst hE
        clear hBq
        go_enter Tryz.func42, Tryz.ntmps42
        go_wp2_with (first | (go_at_call 71; first | (refine H2.out _ hB.out |>.mono ?_; rintro e w2 ⟨rfl, hb2⟩; have hB2 := Lib.hid (below_step hB.out hb2); clear hb2; have c0 : w2.cell? ⟨g, 0, none⟩ = some (.string s) := (blk_cell (blk_below hP'.out hB2.out) 0).trans rfl) | (refine H1.out.mono ?_; rintro e w1 ⟨rfl, hb⟩; have hB := Lib.hid hb; clear hb; have c3' : w1.cell? ⟨g, 3, none⟩ = some (.slice A l.length c) := (blk_cell (blk_below hP'.out hB.out) 3).trans rfl)))
        go_ret
        exact ⟨rfl, Far.of hB2.out (Nat.le_of_lt hg.out), fun h => absurd h zb20⟩
      · rw [if_neg zb17, if_neg h3, if_pos h2] at hE
        subst hE
        rw [if_neg h3, if_pos h2] at hBq
        replace hBq := hBq.symm
        subst hBq
        obtain ⟨x, hx⟩ : ∃ x, x = (if sE = 0 then Value.string s else .string ⟨#[]⟩) := ⟨_, rfl⟩
        rw [← hx] at H4
        replace hx := Lib.hid hx
        go_enter Tryz.func42, Tryz.ntmps42
        go_wp2_with (first | (go_at_call 71; first | (refine H2.out _ hB.out |>.mono ?_; rintro e w2 ⟨rfl, hb2⟩; have hB2 := Lib.hid (below_step hB.out hb2); clear hb2; have c0 : w2.cell? ⟨g, 0, none⟩ = some (.string s) := (blk_cell (blk_below hP'.out hB2.out) 0).trans rfl) | (refine H1.out.mono ?_; rintro e w1 ⟨rfl, hb⟩; have hB := Lib.hid hb; clear hb; have c3' : w1.cell? ⟨g, 3, none⟩ = some (.slice A l.length c) := (blk_cell (blk_below hP'.out hB.out) 3).trans rfl)) | (go_at_call 73; refine (H4.out _ hB2.out).mono ?_; rintro e w3 ⟨rfl, hp, hf⟩))
        go_ret
        refine ⟨rfl, (Far.of hB2.out (Nat.le_of_lt hg.out)).trans hf, fun h => ?_⟩
        have hxx := hx.out
        rw [if_pos h] at hxx
        rw [hxx] at hp
        exact ⟨_, hp⟩
    · by_cases h3 : 0 < m
      · rw [if_neg zb17, if_pos h3] at hE
        subst hE
        rw [if_pos h3] at hBq
        replace hBq := hBq.symm
        subst hBq
        go_enter Tryz.func42, Tryz.ntmps42
        go_wp2_with (first | (go_at_call 71; first | (refine H2.out _ hB.out |>.mono ?_; rintro e w2 ⟨rfl, hb2⟩; have hB2 := Lib.hid (below_step hB.out hb2); clear hb2; have c0 : w2.cell? ⟨g, 0, none⟩ = some (.string s) := (blk_cell (blk_below hP'.out hB2.out) 0).trans rfl) | (refine H1.out.mono ?_; rintro e w1 ⟨rfl, hb⟩; have hB := Lib.hid hb; clear hb; have c3' : w1.cell? ⟨g, 3, none⟩ = some (.slice A l.length c) := (blk_cell (blk_below hP'.out hB.out) 3).trans rfl)) | (go_at_call 72; refine (H3.out _ hB2.out).mono ?_; rintro e w3 ⟨rfl, hf, hp⟩))
        go_ret
        exact ⟨rfl, (Far.of hB2.out (Nat.le_of_lt hg.out)).trans hf, hp⟩
      · rw [if_neg zb17, if_neg h3, if_neg h2] at hE
        rw [if_neg h3, if_neg h2] at hBq
        replace hBq := hBq.symm
        subst hBq
        by_cases h4 : s.toList = []
        · rw [if_pos h4] at hE
          subst hE
          have h4a : (s.toList == ([] : List UInt8)) = true := by rw [h4]; rfl
          have h4b : (s.toList != ([] : List UInt8)) = false := by rw [h4]; rfl
          clear h4
          go_enter Tryz.func42, Tryz.ntmps42
          go_wp2_with (first | (go_at_call 71; first | (refine H2.out _ hB.out |>.mono ?_; rintro e w2 ⟨rfl, hb2⟩; have hB2 := Lib.hid (below_step hB.out hb2); clear hb2; have c0 : w2.cell? ⟨g, 0, none⟩ = some (.string s) := (blk_cell (blk_below hP'.out hB2.out) 0).trans rfl) | (refine H1.out.mono ?_; rintro e w1 ⟨rfl, hb⟩; have hB := Lib.hid hb; clear hb; have c3' : w1.cell? ⟨g, 3, none⟩ = some (.slice A l.length c) := (blk_cell (blk_below hP'.out hB.out) 3).trans rfl)))
          go_ret
          exact ⟨rfl, Far.of hB2.out (Nat.le_of_lt hg.out), fun _ => ⟨_, blk_below hP'.out hB2.out⟩⟩
        · rw [if_neg h4] at hE
          subst hE
          have h4a : (s.toList == ([] : List UInt8)) = false := by simpa using h4
          have h4b : (s.toList != ([] : List UInt8)) = true := by simpa using h4
          go_enter Tryz.func42, Tryz.ntmps42
          go_wp2_with (first | (go_at_call 71; first | (refine H2.out _ hB.out |>.mono ?_; rintro e w2 ⟨rfl, hb2⟩; have hB2 := Lib.hid (below_step hB.out hb2); clear hb2; have c0 : w2.cell? ⟨g, 0, none⟩ = some (.string s) := (blk_cell (blk_below hP'.out hB2.out) 0).trans rfl) | (refine H1.out.mono ?_; rintro e w1 ⟨rfl, hb⟩; have hB := Lib.hid hb; clear hb; have c3' : w1.cell? ⟨g, 3, none⟩ = some (.slice A l.length c) := (blk_cell (blk_below hP'.out hB.out) 3).trans rfl)))
          go_ret
          exact ⟨rfl, Far.of hB2.out (Nat.le_of_lt hg.out), fun h => absurd h zb20⟩
end Go.Proofs.YteonhdfjfjpbjaaGreatDoor.O
/- Px16 -/
namespace Go.Proofs.YteonhdfjfjpbjaaGreatDoor.P
open Go.Proofs.YteonhdfjfjpbjaaGreatDoor.B
open Go.RowKit Go.Proofs.YteonhdfjfjpbjaaGreatDoorW.PrintWords Go.Proofs.YteonhdfjfjpbjaaGreatDoorW.PrintLast Go.Proofs.YteonhdfjfjpbjaaGreatDoorW.PrintMore
attribute [local go_sem] str_leq str_gtr str_geq max2_int min2_int max_two min_two max_three min_three max_four min_four
set_option linter.unusedVariables false
set_option linter.unusedSimpArgs false
def strings_HasPrefix.f (a0 : ByteArray) (a1 : ByteArray) : Option (Bool) := (stringslite_HasPrefix.f a0 a1).bind fun t186 => (some t186)
set_option maxHeartbeats 8000000 in
set_option maxRecDepth 100000 in
theorem strings_HasPrefix.calls (a0 : ByteArray) (a1 : ByteArray) (r : Bool) (w : World) (h : strings_HasPrefix.f a0 a1 = some r) :
  Calls Tryz.prog 103 #[.string a0, .string a1] w fun e w' => e = .returned (.bool r) ∧ Drawn0 w w' := by
 have H : ((stringslite_HasPrefix.f a0 a1).bind fun t186 => (some t186)) = some r := h
 clear h
 replace H := Option.bind_eq_some_iff.mp H
 obtain ⟨t186, A30, H⟩ := H
 replace H : (some t186) = some r := H
 have A3 := Aside0.mk A30
 clear A30
 obtain rfl := Option.some.inj H
 go_enter Tryz.func103, Tryz.ntmps103
 go_wp2_with (first | ((with_reducible refine gate_callee (f := 128) rfl ?_); refine goesL_ (some 7) rfl rfl Tryz.func128 zb15 rfl #[.string a0, .string a1] rfl zb1 ?_; (with_reducible refine (stringslite_HasPrefix.calls a0 a1 t186 _ A3.out).mono ?_); rintro e w' ⟨rfl, ⟨nd, rfl⟩⟩; refine ⟨_, rfl, ?_⟩))
 go_ret
 exact ⟨by first | rfl | (simp; done) | (simp [*]; done), by repeat (first | exact Drawn0.refl _ | apply Drawn0.step)⟩
end Go.Proofs.YteonhdfjfjpbjaaGreatDoor.P
/- Otar -/
namespace Go.Proofs.YteonhdfjfjpbjaaGreatDoor.O
open Go.RowKit Go.Proofs.YteonhdfjfjpbjaaGreatDoorW.PrintWords Go.Proofs.YteonhdfjfjpbjaaGreatDoorW.PrintLast Go.Proofs.YteonhdfjfjpbjaaGreatDoorW.PrintMore Go.Proofs.YteonhdfjfjpbjaaGreatDoor.P
set_option linter.unusedVariables false
set_option linter.unusedSimpArgs false
/-- Is a rune none of a target's? -/
def oddT (x : Nat) : Bool := decide (x ≤ 32) || decide (126 < x) || x == 35
theorem odd_target (w : World) : PredAt Tryz.prog 102 #[] encR oddT w := fun W x _ => by
  unfold FnGives
  have z : ∀ (q : Bool), oddT x = q → Calls Tryz.prog 102 #[.int .i32 (x : Int)] W fun e w' => e = .returned (.bool q) ∧ ∃ m, w' = W.drewN m := by
    intro q hq
    by_cases h1 : (x : Int) ≤ 32 <;> by_cases h2 : (126 : Int) < x <;> by_cases h3 : (x : Int) = 35
    all_goals first | (exfalso; omega) | skip
    all_goals
      have e1 : oddT x = (decide ((x : Int) ≤ 32) || decide ((126 : Int) < x) || ((x : Int) == 35)) := by
        unfold oddT
        rw [show decide (x ≤ 32) = decide ((x : Int) ≤ 32) from by congr 1; exact propext zb17, show decide (126 < x) = decide ((126 : Int) < x) from by congr 1; exact propext zb17, show (x == 35) = ((x : Int) == 35) from by rw [Bool.eq_iff_iff]; simp; omega]
      have e2 := Lib.hid (e1.symm.trans hq)
      clear e1 hq
      go_enter Tryz.func102, Tryz.ntmps102
      go_wp2
      go_ret
      refine ⟨ret_bool ?_, 0, rfl⟩
      rw [← e2.out]
      first | (simp [h1, h2, h3]; done) | (rw [Bool.eq_iff_iff]; simp; omega)
  exact z _ rfl
/-- May a text be a target? -/
def targetB (s : ByteArray) : Bool := if s.data.toList.head? = some 47 then !(decide (0 ≤ Lib.idxFunc oddT true s)) else false
theorem slashF (s : ByteArray) : strings_HasPrefix.f s ⟨#[47]⟩ = some (decide (s.data.toList.head? = some 47)) := by
  unfold strings_HasPrefix.f
  rw [← Sp.mk_self s, show (⟨#[47]⟩ : ByteArray) = Sp.mk [47] from rfl, Sp.hasF]
  simp only [Option.bind_some, Sp.mk_data]
  congr 1
  rw [Bool.eq_iff_iff, Sp.hasP_one, decide_eq_true_eq]
theorem target_calls (a0 : ByteArray) (w : World) : Calls Tryz.prog 69 #[.string a0] w fun e w' => e = .returned (.bool (targetB a0)) ∧ Below w.heap.size w w' := by
  have hC := Tryz.strings_ContainsFunc 102 #[] (enters_of Tryz.func102 zb15 rfl) oddT a0
  have HC := Lib.hid (fun W => hC W (odd_target W))
  clear hC
  have HS := Lib.hid (fun W => strings_HasPrefix.calls a0 ⟨#[47]⟩ _ W (slashF a0))
  unfold targetB
  by_cases h : a0.data.toList.head? = some 47
  · rw [if_pos h]
    rw [decide_eq_true h] at HS
    clear h
    generalize decide (0 ≤ Lib.idxFunc oddT true a0) = q at *
    go_enter Tryz.func69, Tryz.ntmps69
    go_wp2_with (first | (go_at_call 103; refine (HS.out _).mono ?_; rintro e w1 ⟨rfl, ⟨k, rfl⟩⟩) | (go_at_call 104; refine (HC.out _).mono ?_; rintro e w2 ⟨rfl, hb⟩))
    go_ret
    exact ⟨rfl, below_step (below_drewN_ _ _) hb⟩
  · rw [if_neg h]
    rw [decide_eq_false h] at HS
    clear h HC
    go_enter Tryz.func69, Tryz.ntmps69
    go_wp2_with (go_at_call 103; refine (HS.out _).mono ?_; rintro e w1 ⟨rfl, ⟨k, rfl⟩⟩)
    go_ret
    exact ⟨rfl, below_drewN_ _ _⟩
def firstOk (a b c t1 t2 : ByteArray) : Bool := decide (c.toList = [72, 84, 84, 80, 47, 49, 46, 49]) && targetB b && decide (t1.toList ≠ []) && decide (t2.toList = [])
def lnE (s l : ByteArray) (ok : Bool) (ws : List ByteArray) (t1 t2 : ByteArray) : Int :=
  if ok = false ∨ 8000 < l.size then (if 8000 < s.size then 2 else 200)
  else match ws with
    | [a, b, c] => if firstOk a b c t1 t2 = true then 0 else 200
    | _ => 200
theorem cell_at {W W1 : World} {p : Addr} {v : Value} (hb : Below W.heap.size W W1) (hp : p.block < W.heap.size) (h : W.cell? p = some v) : W1.cell? p = some v := (hb.cell hp).trans h
def LineEnd (g : Nat) (W : World) (r : ByteArray) (ws : List ByteArray) (v bv : Value) (E : Int) (e : Ending) (W' : World) : Prop :=
  e = .returned (.int .i64 E) ∧ Far g W W' ∧ (E = 0 → ∃ a b c : ByteArray, ws = [a, b, c] ∧ Par W' g (.string r) (.string a) (.string b) v bv)
set_option maxHeartbeats 4000000 in
theorem line_in (g : Nat) (s l r t1 t2 : ByteArray) (ok : Bool) (ws : List ByteArray) (k : Nat) (mv tv v bv : Value) (E : Int) (W : World) (hG : Glob W) (hP : Par W g (.string s) mv tv v bv)
    (hC : strings_Cut.f s ⟨#[13, 10]⟩ = some (l, r, ok)) (hS : strings_Split.f l ⟨#[32]⟩ = some ws) (hK : ∀ a b c, ws = [a, b, c] → media_Text_Token.f k a = some (t1, t2)) (hE : lnE s l ok ws t1 t2 = E) :
    Calls Tryz.prog 40 #[.pointer (some ⟨g, 0, none⟩)] W (LineEnd g W r ws v bv E) := by
  have hg : Hid (g < W.heap.size) := Lib.hid (blk_lt (show W.heap[g]? = some (.cells #[.string s, mv, tv, v, bv] 76 (0, 0)) from hP))
  have H1 := Lib.hid (strings_Cut.calls s ⟨#[13, 10]⟩ l r ok W hG hC)
  have H2 := Lib.hid (fun W1 (hb : Below W.heap.size W W1) => strings_Split.calls l ⟨#[32]⟩ ws W1 (hG.below hb) hS)
  unfold Par at hP
  have c0 : W.cell? ⟨g, 0, none⟩ = some (.string s) := (blk_cell hP 0).trans rfl
  have hP' := Lib.hid hP
  clear hP hC hS hG
  unfold lnE at hE
  unfold LineEnd
  by_cases h1 : ok = false ∨ 8000 < l.size
  · rw [if_pos h1] at hE
    by_cases h2 : 8000 < s.size
    · rw [if_pos h2] at hE
      subst hE
      have h2' : (8000 : Int) < (s.size : Int) := by omega
      clear h2
      cases ok with
      | false =>
        go_enter Tryz.func40, Tryz.ntmps40
        go_wp2_with (go_at_call 31; refine H1.out.mono ?_; rintro e w1 ⟨rfl, hb⟩; have hB := Lib.hid hb; clear hb; have c1 : w1.cell? ⟨g, 0, none⟩ = some (.string s) := (blk_cell (blk_below hP'.out hB.out) 0).trans rfl)
        go_ret
        exact ⟨rfl, Far.of hB.out (Nat.le_of_lt hg.out), fun h => absurd h zb20⟩
      | true =>
        have h3 : (8000 : Int) < (l.size : Int) := by rcases h1 with h | h; exact absurd h zb20; omega
        clear h1
        go_enter Tryz.func40, Tryz.ntmps40
        go_wp2_with (go_at_call 31; refine H1.out.mono ?_; rintro e w1 ⟨rfl, hb⟩; have hB := Lib.hid hb; clear hb; have c1 : w1.cell? ⟨g, 0, none⟩ = some (.string s) := (blk_cell (blk_below hP'.out hB.out) 0).trans rfl)
        go_ret
        exact ⟨rfl, Far.of hB.out (Nat.le_of_lt hg.out), fun h => absurd h zb20⟩
    · rw [if_neg h2] at hE
      subst hE
      have h2' : ¬ (8000 : Int) < (s.size : Int) := by omega
      clear h2
      cases ok with
      | false =>
        go_enter Tryz.func40, Tryz.ntmps40
        go_wp2_with (go_at_call 31; refine H1.out.mono ?_; rintro e w1 ⟨rfl, hb⟩; have hB := Lib.hid hb; clear hb; have c1 : w1.cell? ⟨g, 0, none⟩ = some (.string s) := (blk_cell (blk_below hP'.out hB.out) 0).trans rfl)
        go_ret
        exact ⟨rfl, Far.of hB.out (Nat.le_of_lt hg.out), fun h => absurd h zb20⟩
      | true =>
        have h3 : (8000 : Int) < (l.size : Int) := by rcases h1 with h | h; exact absurd h zb20; omega
        clear h1
        go_enter Tryz.func40, Tryz.ntmps40
        go_wp2_with (go_at_call 31; refine H1.out.mono ?_; rintro e w1 ⟨rfl, hb⟩; have hB := Lib.hid hb; clear hb; have c1 : w1.cell? ⟨g, 0, none⟩ = some (.string s) := (blk_cell (blk_below hP'.out hB.out) 0).trans rfl)
        go_ret
        exact ⟨rfl, Far.of hB.out (Nat.le_of_lt hg.out), fun h => absurd h zb20⟩
  · rw [if_neg h1] at hE
    obtain rfl : ok = true := by cases ok; exact absurd (Or.inl rfl) h1; rfl
    have h3 : ¬ (8000 : Int) < (l.size : Int) := by have := fun h => h1 (Or.inr h); omega
    clear h1
    by_cases h4 : ws.length = 3
    · obtain ⟨a, b, c, rfl⟩ : ∃ a b c, ws = [a, b, c] := by
        match ws, h4 with
        | [a, b, c], _ => exact ⟨a, b, c, rfl⟩
      clear h4
      have HT := Lib.hid (fun W1 => target_calls b W1)
      have HK := Lib.hid (fun w0 W1 g' hI hB => media_Text_Token.calls k g' a t1 t2 w0 W1 hI hB (hK a b c rfl))
      clear hK
      simp only at hE
      by_cases h5 : c.toList = [72, 84, 84, 80, 47, 49, 46, 49]
      · have h5a : (c.toList == ([72, 84, 84, 80, 47, 49, 46, 49] : List UInt8)) = true := beq_iff_eq.mpr h5
        by_cases h6 : targetB b = true
        · rw [h6] at HT
          by_cases h7 : t1.toList = []
          · rw [if_neg (by simp [firstOk, h7])] at hE
            subst hE
            have h7a : (t1.toList == ([] : List UInt8)) = true := by rw [h7]; rfl
            clear h5 h6 h7
            go_enter Tryz.func40, Tryz.ntmps40
            go_wp2_with (first | (go_at_call 31; refine H1.out.mono ?_; rintro e w1 ⟨rfl, hb⟩; have hB := Lib.hid hb; clear hb; have c1 : w1.cell? ⟨g, 0, none⟩ = some (.string s) := (blk_cell (blk_below hP'.out hB.out) 0).trans rfl) | (go_at_call 68; refine (H2.out _ hB.out).mono ?_; rintro e w2 ⟨v2, rfl, ho, hb2⟩; have hB2 := Lib.hid (below_step hB.out hb2); obtain ⟨g1, cp, rfl, hg1, hg2, hty⟩ := Kd.R_form ho zb25; have q0 : w2.cell? ⟨g1, 0, none⟩ = some (.string a) := (Kd.R_cell (ByteArray.empty) ho 0 zb20 zb25).1; have q1 : w2.cell? ⟨g1, 1, none⟩ = some (.string b) := (Kd.R_cell (ByteArray.empty) ho 1 zb20 zb25).1; have q2 : w2.cell? ⟨g1, 2, none⟩ = some (.string c) := (Kd.R_cell (ByteArray.empty) ho 2 zb20 zb25).1; clear ho; have hg1' := Lib.hid (Nat.lt_of_lt_of_le hg.out (Nat.le_trans hB.out.size hg1)); have hg2' := Lib.hid hg2; clear hg1 hg2 hty; have hb2' := Lib.hid hb2; clear hb2) | (go_at_call 69; refine (HT.out _).mono ?_; rintro e w3 ⟨rfl, hb3⟩; have hB3 := Lib.hid (below_step hB2.out hb3); have q3 := cell_at hb3 hg2'.out q0; have q4 := cell_at hb3 hg2'.out q1; have hb3' := Lib.hid hb3; clear hb3) | (go_at_call 70; go_loud (refine (HK.out w3 _ _ ⟨?_, Nat.le_refl _⟩ ?_).mono ?_; (first | exact blk_put (blk_new _ _) 0 _ rfl | exact blk_new _ _); (first | exact (below_alloc (Below.refl _ _) _).setCell (p := ⟨w3.heap.size, 0, none⟩) (Nat.le_refl _) _ | exact below_alloc (Below.refl _ _) _); rintro e w5 ⟨rfl, hI, hb5, hk5⟩; have hB5 := Lib.hid (below_step hB3.out hb5); have q5 := cell_at hb5 (Nat.lt_of_lt_of_le hg2'.out hb3'.out.size) q3; have q6 := cell_at hb5 (Nat.lt_of_lt_of_le hg2'.out hb3'.out.size) q4; have q7 : w5.cell? ⟨w3.heap.size, 0, none⟩ = some (.string t2) := (blk_cell hI.1 0).trans rfl; have hP5 := Lib.hid (blk_below hP'.out hB5.out); have c5 : w5.cell? ⟨g, 0, none⟩ = some (.string s) := (blk_cell hP5.out 0).trans rfl; have c6 : w5.cell? ⟨g, 1, none⟩ = some mv := (blk_cell hP5.out 1).trans rfl; have c7 : w5.cell? ⟨g, 2, none⟩ = some tv := (blk_cell hP5.out 2).trans rfl; have f5 := blk_frozen hP5.out 0; have f6 := blk_frozen hP5.out 1; have f7 := blk_frozen hP5.out 2; clear hI hb5 hk5)))
            go_ret
            exact ⟨rfl, Far.of hB5.out (Nat.le_of_lt hg.out), fun h => absurd h zb20⟩
          · have h7a : (t1.toList == ([] : List UInt8)) = false := by simpa using h7
            by_cases h8 : t2.toList = []
            · rw [if_pos (by simp [firstOk, h5, h6, h7, h8])] at hE
              subst hE
              have h8a : (t2.toList == ([] : List UInt8)) = true := by rw [h8]; rfl
              have h8b : (t2.toList != ([] : List UInt8)) = false := by rw [h8]; rfl
              clear h5 h6 h7 h8
              go_enter Tryz.func40, Tryz.ntmps40
              go_wp2_with (first | (go_at_call 31; refine H1.out.mono ?_; rintro e w1 ⟨rfl, hb⟩; have hB := Lib.hid hb; clear hb; have c1 : w1.cell? ⟨g, 0, none⟩ = some (.string s) := (blk_cell (blk_below hP'.out hB.out) 0).trans rfl) | (go_at_call 68; refine (H2.out _ hB.out).mono ?_; rintro e w2 ⟨v2, rfl, ho, hb2⟩; have hB2 := Lib.hid (below_step hB.out hb2); obtain ⟨g1, cp, rfl, hg1, hg2, hty⟩ := Kd.R_form ho zb25; have q0 : w2.cell? ⟨g1, 0, none⟩ = some (.string a) := (Kd.R_cell (ByteArray.empty) ho 0 zb20 zb25).1; have q1 : w2.cell? ⟨g1, 1, none⟩ = some (.string b) := (Kd.R_cell (ByteArray.empty) ho 1 zb20 zb25).1; have q2 : w2.cell? ⟨g1, 2, none⟩ = some (.string c) := (Kd.R_cell (ByteArray.empty) ho 2 zb20 zb25).1; clear ho; have hg1' := Lib.hid (Nat.lt_of_lt_of_le hg.out (Nat.le_trans hB.out.size hg1)); have hg2' := Lib.hid hg2; clear hg1 hg2 hty; have hb2' := Lib.hid hb2; clear hb2) | (go_at_call 69; refine (HT.out _).mono ?_; rintro e w3 ⟨rfl, hb3⟩; have hB3 := Lib.hid (below_step hB2.out hb3); have q3 := cell_at hb3 hg2'.out q0; have q4 := cell_at hb3 hg2'.out q1; have hb3' := Lib.hid hb3; clear hb3) | (go_at_call 70; go_loud (refine (HK.out w3 _ _ ⟨?_, Nat.le_refl _⟩ ?_).mono ?_; (first | exact blk_put (blk_new _ _) 0 _ rfl | exact blk_new _ _); (first | exact (below_alloc (Below.refl _ _) _).setCell (p := ⟨w3.heap.size, 0, none⟩) (Nat.le_refl _) _ | exact below_alloc (Below.refl _ _) _); rintro e w5 ⟨rfl, hI, hb5, hk5⟩; have hB5 := Lib.hid (below_step hB3.out hb5); have q5 := cell_at hb5 (Nat.lt_of_lt_of_le hg2'.out hb3'.out.size) q3; have q6 := cell_at hb5 (Nat.lt_of_lt_of_le hg2'.out hb3'.out.size) q4; have q7 : w5.cell? ⟨w3.heap.size, 0, none⟩ = some (.string t2) := (blk_cell hI.1 0).trans rfl; have hP5 := Lib.hid (blk_below hP'.out hB5.out); have c5 : w5.cell? ⟨g, 0, none⟩ = some (.string s) := (blk_cell hP5.out 0).trans rfl; have c6 : w5.cell? ⟨g, 1, none⟩ = some mv := (blk_cell hP5.out 1).trans rfl; have c7 : w5.cell? ⟨g, 2, none⟩ = some tv := (blk_cell hP5.out 2).trans rfl; have f5 := blk_frozen hP5.out 0; have f6 := blk_frozen hP5.out 1; have f7 := blk_frozen hP5.out 2; clear hI hb5 hk5)))
              go_region
              go_wp2
              go_ret
              exact ⟨rfl, ((((Far.of hB5.out (Nat.le_of_lt hg.out)).trans (Far.set _ _ _ _)).trans (Far.set _ _ _ _)).trans (Far.set _ _ _ _)).trans (Far.drew1 _ _), fun _ => ⟨a, b, c, rfl, blk_drew (blk_put (blk_put (blk_put hP5.out 1 _ rfl) 2 _ rfl) 0 _ rfl)⟩⟩
            · rw [if_neg (by simp [firstOk, h8])] at hE
              subst hE
              have h8a : (t2.toList == ([] : List UInt8)) = false := by simpa using h8
              have h8b : (t2.toList != ([] : List UInt8)) = true := by simpa using h8
              clear h5 h6 h7
              go_enter Tryz.func40, Tryz.ntmps40
              go_wp2_with (first | (go_at_call 31; refine H1.out.mono ?_; rintro e w1 ⟨rfl, hb⟩; have hB := Lib.hid hb; clear hb; have c1 : w1.cell? ⟨g, 0, none⟩ = some (.string s) := (blk_cell (blk_below hP'.out hB.out) 0).trans rfl) | (go_at_call 68; refine (H2.out _ hB.out).mono ?_; rintro e w2 ⟨v2, rfl, ho, hb2⟩; have hB2 := Lib.hid (below_step hB.out hb2); obtain ⟨g1, cp, rfl, hg1, hg2, hty⟩ := Kd.R_form ho zb25; have q0 : w2.cell? ⟨g1, 0, none⟩ = some (.string a) := (Kd.R_cell (ByteArray.empty) ho 0 zb20 zb25).1; have q1 : w2.cell? ⟨g1, 1, none⟩ = some (.string b) := (Kd.R_cell (ByteArray.empty) ho 1 zb20 zb25).1; have q2 : w2.cell? ⟨g1, 2, none⟩ = some (.string c) := (Kd.R_cell (ByteArray.empty) ho 2 zb20 zb25).1; clear ho; have hg1' := Lib.hid (Nat.lt_of_lt_of_le hg.out (Nat.le_trans hB.out.size hg1)); have hg2' := Lib.hid hg2; clear hg1 hg2 hty; have hb2' := Lib.hid hb2; clear hb2) | (go_at_call 69; refine (HT.out _).mono ?_; rintro e w3 ⟨rfl, hb3⟩; have hB3 := Lib.hid (below_step hB2.out hb3); have q3 := cell_at hb3 hg2'.out q0; have q4 := cell_at hb3 hg2'.out q1; have hb3' := Lib.hid hb3; clear hb3) | (go_at_call 70; go_loud (refine (HK.out w3 _ _ ⟨?_, Nat.le_refl _⟩ ?_).mono ?_; (first | exact blk_put (blk_new _ _) 0 _ rfl | exact blk_new _ _); (first | exact (below_alloc (Below.refl _ _) _).setCell (p := ⟨w3.heap.size, 0, none⟩) (Nat.le_refl _) _ | exact below_alloc (Below.refl _ _) _); rintro e w5 ⟨rfl, hI, hb5, hk5⟩; have hB5 := Lib.hid (below_step hB3.out hb5); have q5 := cell_at hb5 (Nat.lt_of_lt_of_le hg2'.out hb3'.out.size) q3; have q6 := cell_at hb5 (Nat.lt_of_lt_of_le hg2'.out hb3'.out.size) q4; have q7 : w5.cell? ⟨w3.heap.size, 0, none⟩ = some (.string t2) := (blk_cell hI.1 0).trans rfl; have hP5 := Lib.hid (blk_below hP'.out hB5.out); have c5 : w5.cell? ⟨g, 0, none⟩ = some (.string s) := (blk_cell hP5.out 0).trans rfl; have c6 : w5.cell? ⟨g, 1, none⟩ = some mv := (blk_cell hP5.out 1).trans rfl; have c7 : w5.cell? ⟨g, 2, none⟩ = some tv := (blk_cell hP5.out 2).trans rfl; have f5 := blk_frozen hP5.out 0; have f6 := blk_frozen hP5.out 1; have f7 := blk_frozen hP5.out 2; clear hI hb5 hk5)))
              go_ret
              exact ⟨rfl, Far.of hB5.out (Nat.le_of_lt hg.out), fun h => absurd h zb20⟩
        · replace h6 : targetB b = false := by simpa using h6
          rw [h6] at HT
          rw [if_neg (by simp [firstOk, h6])] at hE
          subst hE
          clear h5 h6
          go_enter Tryz.func40, Tryz.ntmps40
          go_wp2_with (first | (go_at_call 31; refine H1.out.mono ?_; rintro e w1 ⟨rfl, hb⟩; have hB := Lib.hid hb; clear hb; have c1 : w1.cell? ⟨g, 0, none⟩ = some (.string s) := (blk_cell (blk_below hP'.out hB.out) 0).trans rfl) | (go_at_call 68; refine (H2.out _ hB.out).mono ?_; rintro e w2 ⟨v2, rfl, ho, hb2⟩; have hB2 := Lib.hid (below_step hB.out hb2); obtain ⟨g1, cp, rfl, hg1, hg2, hty⟩ := Kd.R_form ho zb25; have q0 : w2.cell? ⟨g1, 0, none⟩ = some (.string a) := (Kd.R_cell (ByteArray.empty) ho 0 zb20 zb25).1; have q1 : w2.cell? ⟨g1, 1, none⟩ = some (.string b) := (Kd.R_cell (ByteArray.empty) ho 1 zb20 zb25).1; have q2 : w2.cell? ⟨g1, 2, none⟩ = some (.string c) := (Kd.R_cell (ByteArray.empty) ho 2 zb20 zb25).1; clear ho; have hg1' := Lib.hid (Nat.lt_of_lt_of_le hg.out (Nat.le_trans hB.out.size hg1)); have hg2' := Lib.hid hg2; clear hg1 hg2 hty; have hb2' := Lib.hid hb2; clear hb2) | (go_at_call 69; refine (HT.out _).mono ?_; rintro e w3 ⟨rfl, hb3⟩; have hB3 := Lib.hid (below_step hB2.out hb3); have q3 := cell_at hb3 hg2'.out q0; have q4 := cell_at hb3 hg2'.out q1; have hb3' := Lib.hid hb3; clear hb3))
          go_ret
          exact ⟨rfl, Far.of hB3.out (Nat.le_of_lt hg.out), fun h => absurd h zb20⟩
      · rw [if_neg (by simp [firstOk, h5])] at hE
        subst hE
        have h5a : (c.toList == ([72, 84, 84, 80, 47, 49, 46, 49] : List UInt8)) = false := by simpa using h5
        clear h5
        go_enter Tryz.func40, Tryz.ntmps40
        go_wp2_with (first | (go_at_call 31; refine H1.out.mono ?_; rintro e w1 ⟨rfl, hb⟩; have hB := Lib.hid hb; clear hb; have c1 : w1.cell? ⟨g, 0, none⟩ = some (.string s) := (blk_cell (blk_below hP'.out hB.out) 0).trans rfl) | (go_at_call 68; refine (H2.out _ hB.out).mono ?_; rintro e w2 ⟨v2, rfl, ho, hb2⟩; have hB2 := Lib.hid (below_step hB.out hb2); obtain ⟨g1, cp, rfl, hg1, hg2, hty⟩ := Kd.R_form ho zb25; have q0 : w2.cell? ⟨g1, 0, none⟩ = some (.string a) := (Kd.R_cell (ByteArray.empty) ho 0 zb20 zb25).1; have q1 : w2.cell? ⟨g1, 1, none⟩ = some (.string b) := (Kd.R_cell (ByteArray.empty) ho 1 zb20 zb25).1; have q2 : w2.cell? ⟨g1, 2, none⟩ = some (.string c) := (Kd.R_cell (ByteArray.empty) ho 2 zb20 zb25).1; clear ho; have hg1' := Lib.hid (Nat.lt_of_lt_of_le hg.out (Nat.le_trans hB.out.size hg1)); have hg2' := Lib.hid hg2; clear hg1 hg2 hty; have hb2' := Lib.hid hb2; clear hb2) | (go_at_call 69; refine (HT.out _).mono ?_; rintro e w3 ⟨rfl, hb3⟩; have hB3 := Lib.hid (below_step hB2.out hb3); have q3 := cell_at hb3 hg2'.out q0; have q4 := cell_at hb3 hg2'.out q1; have hb3' := Lib.hid hb3; clear hb3))
        go_ret
        exact ⟨rfl, Far.of hB2.out (Nat.le_of_lt hg.out), fun h => absurd h zb20⟩
    · obtain rfl : E = 200 := by
        rw [← hE]
        match ws, h4 with
        | [], _ => rfl
        | [_], _ => rfl
        | [_, _], _ => rfl
        | [_, _, _], h => exact absurd rfl h
        | _ :: _ :: _ :: _ :: _, _ => rfl
      have h4' : ((ws.length : Int) == 3) = false := by simp; omega
      have h4b : ((ws.length : Int) != 3) = true := by simp; omega
      have h4c : ¬ (ws.length : Int) = 3 := by omega
      clear h4 hE hK
      go_enter Tryz.func40, Tryz.ntmps40
      go_wp2_with (first | (go_at_call 31; refine H1.out.mono ?_; rintro e w1 ⟨rfl, hb⟩; have hB := Lib.hid hb; clear hb; have c1 : w1.cell? ⟨g, 0, none⟩ = some (.string s) := (blk_cell (blk_below hP'.out hB.out) 0).trans rfl) | (go_at_call 68; refine (H2.out _ hB.out).mono ?_; rintro e w2 ⟨v2, rfl, ho, hb2⟩; have hB2 := Lib.hid (below_step hB.out hb2); obtain ⟨A, cp, rfl⟩ := Kd.R_slice ho; have hO := Lib.hid ho; clear ho hb2))
      go_ret
      exact ⟨rfl, Far.of hB2.out (Nat.le_of_lt hg.out), fun h => absurd h zb20⟩
def HeadEnd (g : Nat) (W : World) (r : ByteArray) (m t b : Value) (l : List S49) (E : Int) (e : Ending) (W' : World) : Prop :=
  e = .returned (.int .i64 E) ∧ Far g W W' ∧ (E = 0 → ∃ v' : Value, Par W' g (.string r) m t v' b ∧ Kd.R k49 49 W' W.heap.size (fun _ => True) v' l)
def LineDoes (w : World) (s r : ByteArray) (ws : List ByteArray) (E : Int) : Prop := ∀ (g : Nat) (W : World), Below w.heap.size w W → Par W g (.string s) (.string ⟨#[]⟩) (.string ⟨#[]⟩) (.slice none 0 0) (.string ⟨#[]⟩) →
  Calls Tryz.prog 40 #[.pointer (some ⟨g, 0, none⟩)] W (LineEnd g W r ws (.slice none 0 0) (.string ⟨#[]⟩) E)
def HeadDoes (w : World) (r r2 : ByteArray) (l : List S49) (E : Int) : Prop := ∀ (g : Nat) (m t : Value) (W : World), Below w.heap.size w W → Par W g (.string r) m t (.slice none 0 0) (.string ⟨#[]⟩) →
  Calls Tryz.prog 41 #[.pointer (some ⟨g, 0, none⟩)] W (HeadEnd g W r2 m t (.string ⟨#[]⟩) l E)
def BodyDoes (w : World) (r2 B : ByteArray) (l : List S49) (E : Int) : Prop := ∀ (g base : Nat) (m t v : Value) (W : World), Below w.heap.size w W → Par W g (.string r2) m t v (.string ⟨#[]⟩) → Kd.R k49 49 W base (fun _ => True) v l →
  Calls Tryz.prog 42 #[.pointer (some ⟨g, 0, none⟩)] W (Ends g W m t v (.string B) E)
/-- The three functions in their row, and the result's cell, of the zero. -/
structure Lies (W : World) (n : Nat) : Prop where
  fns : W.heap[n + 1 + 1]? = some (.cells #[.func (.func 40) #[.pointer (some ⟨n + 1, 0, none⟩)] #[], .func (.func 41) #[.pointer (some ⟨n + 1, 0, none⟩)] #[], .func (.func 42) #[.pointer (some ⟨n + 1, 0, none⟩)] #[]] 77 (0, 0))
  res : W.heap[n]? = some (.cells #[.string ⟨#[]⟩, .string ⟨#[]⟩, .slice none 0 0, .string ⟨#[]⟩] 36 (0, 0))
theorem Lies.far {W W' : World} {n : Nat} (h : Lies W n) (hf : Far (n + 1) W W') : Lies W' n := ⟨(hf.oth _ (blk_lt h.fns) zb17).trans h.fns, (hf.oth _ (blk_lt h.res) zb17).trans h.res⟩
theorem lies_new (w : World) (o76 : Obj) : Lies (((w.alloc (Obj.cells #[.string ⟨#[]⟩, .string ⟨#[]⟩, .slice none 0 0, .string ⟨#[]⟩] 36 (0, 0))).alloc o76).alloc (.cells #[.func (.func 40) #[.pointer (some ⟨w.heap.size + 1, 0, none⟩)] #[], .func (.func 41) #[.pointer (some ⟨w.heap.size + 1, 0, none⟩)] #[], .func (.func 42) #[.pointer (some ⟨w.heap.size + 1, 0, none⟩)] #[]] 77 (0, 0))) w.heap.size := by
  refine ⟨?_, blk_alloc (blk_alloc (blk_new w _) _) _⟩
  have := blk_new ((w.alloc (Obj.cells #[.string ⟨#[]⟩, .string ⟨#[]⟩, .slice none 0 0, .string ⟨#[]⟩] 36 (0, 0))).alloc o76) (.cells #[.func (.func 40) #[.pointer (some ⟨w.heap.size + 1, 0, none⟩)] #[], .func (.func 41) #[.pointer (some ⟨w.heap.size + 1, 0, none⟩)] #[], .func (.func 42) #[.pointer (some ⟨w.heap.size + 1, 0, none⟩)] #[]] 77 (0, 0))
  simpa only [World.size_alloc] using this
theorem par_new (w : World) (o36 o77 : Obj) (s : ByteArray) : Par (((w.alloc o36).alloc (.cells #[.string s, .string ⟨#[]⟩, .string ⟨#[]⟩, .slice none 0 0, .string ⟨#[]⟩] 76 (0, 0))).alloc o77) (w.heap.size + 1) (.string s) (.string ⟨#[]⟩) (.string ⟨#[]⟩) (.slice none 0 0) (.string ⟨#[]⟩) := by
  unfold Par
  have := blk_alloc (blk_new (w.alloc o36) (.cells #[.string s, .string ⟨#[]⟩, .string ⟨#[]⟩, .slice none 0 0, .string ⟨#[]⟩] 76 (0, 0))) o77
  simpa only [World.size_alloc] using this
theorem below3 (w : World) (a b c : Obj) : Below w.heap.size w (((w.alloc a).alloc b).alloc c) := below_alloc (below_alloc (below_alloc (Below.refl _ _) _) _) _
theorem bel_far {w W W' : World} {n : Nat} (h : Below n w W) (hf : Far (n + 1) W W') : Below n w W' := h.trans (hf.bel.mono (Nat.le_succ n))
theorem row_far_g {W W' : World} {g base : Nat} {l : List S49} {s m t v b v2 : Value} (h : Kd.R k49 49 W base (fun _ => True) v l) (hp : Par W g s m t v2 b) (hf : Far g W W') : Kd.R k49 49 W' base (fun _ => True) v l :=
  Kd.R_mono (Kd.R_step (Kd.R_types h hp zb20) (fun k ho hk => hf.oth k hk ho.2)) (fun _ _ => trivial)
set_option maxHeartbeats 8000000 in
theorem req_err1 (s r : ByteArray) (ws : List ByteArray) (E : Int) (w : World) (hE : E ≠ 0) (HL : LineDoes w s r ws E) :
    Calls Tryz.prog 17 #[.string s] w fun e w' => e = .returned (.tuple #[.agg #[.string ⟨#[]⟩, .string ⟨#[]⟩, .slice none 0 0, .string ⟨#[]⟩], .int .i64 E]) ∧ Below w.heap.size w w' := by
  unfold LineDoes LineEnd at HL
  replace HL := Lib.hid HL
  have hEa : (E == 0) = false := by simpa using hE
  have hEb : (E != 0) = true := by simpa using hE
  replace hE := Lib.hid hE
  go_enter Tryz.func17, Tryz.ntmps17
  go_wp2
  refine wp_loop_rounds 4 ?_
  rw [rounds_succ]
  go_wp2_with (first | (go_at_call 40; (refine (HL.out _ _ (below3 _ _ _ _) (par_new _ _ _ _)).mono ?_; rintro e w1 ⟨rfl, hF1, hP1⟩; have hL1 := Lib.hid ((lies_new w _).far hF1); have hb1 := Lib.hid (bel_far (below3 _ _ _ _) hF1); clear hF1; clear hP1; have fc1_w1 : w1.cell? ⟨w.heap.size + 1 + 1, 1, none⟩ = some (.func (.func 41) #[.pointer (some ⟨w.heap.size + 1, 0, none⟩)] #[]) := (blk_cell hL1.out.fns 1).trans rfl; have fc2_w1 : w1.cell? ⟨w.heap.size + 1 + 1, 2, none⟩ = some (.func (.func 42) #[.pointer (some ⟨w.heap.size + 1, 0, none⟩)] #[]) := (blk_cell hL1.out.fns 2).trans rfl; have rc0_w1 : w1.cell? ⟨w.heap.size, 0, none⟩ = some (.string ⟨#[]⟩) := (blk_cell hL1.out.res 0).trans rfl; have rf0_w1 := blk_frozen hL1.out.res 0; have rc1_w1 : w1.cell? ⟨w.heap.size, 1, none⟩ = some (.string ⟨#[]⟩) := (blk_cell hL1.out.res 1).trans rfl; have rf1_w1 := blk_frozen hL1.out.res 1; have rc2_w1 : w1.cell? ⟨w.heap.size, 2, none⟩ = some (.slice none 0 0) := (blk_cell hL1.out.res 2).trans rfl; have rf2_w1 := blk_frozen hL1.out.res 2; have rc3_w1 : w1.cell? ⟨w.heap.size, 3, none⟩ = some (.string ⟨#[]⟩) := (blk_cell hL1.out.res 3).trans rfl; have rf3_w1 := blk_frozen hL1.out.res 3)))
  refine bodyPost_ret (results_ct rfl _ _ w.heap.size 36 #[.string ⟨#[]⟩, .string ⟨#[]⟩, .slice none 0 0, .string ⟨#[]⟩] (0, 0) _ rfl (by (with_reducible repeat (first | refine blk_drewN ?_ _ | refine blk_drew ?_ | refine blk_alloc ?_ _)); exact blk_put (blk_put (blk_put (blk_put hL1.out.res 0 _ rfl) 1 _ rfl) 2 _ rfl) 3 _ rfl) Tryz.underlying36 rfl zb15) rfl ?_
  exact ⟨rfl, (((hb1.out.setCell (p := ⟨w.heap.size, 0, none⟩) (Nat.le_refl _) _).setCell (p := ⟨w.heap.size, 1, none⟩) (Nat.le_refl _) _).setCell (p := ⟨w.heap.size, 2, none⟩) (Nat.le_refl _) _).setCell (p := ⟨w.heap.size, 3, none⟩) (Nat.le_refl _) _⟩
set_option maxHeartbeats 8000000 in
theorem req_err2 (s r r2 : ByteArray) (ws : List ByteArray) (l : List S49) (E : Int) (w : World) (hE : E ≠ 0) (HL : LineDoes w s r ws 0) (HH : HeadDoes w r r2 l E) :
    Calls Tryz.prog 17 #[.string s] w fun e w' => e = .returned (.tuple #[.agg #[.string ⟨#[]⟩, .string ⟨#[]⟩, .slice none 0 0, .string ⟨#[]⟩], .int .i64 E]) ∧ Below w.heap.size w w' := by
  unfold LineDoes LineEnd at HL
  replace HL := Lib.hid HL
  unfold HeadDoes HeadEnd at HH
  replace HH := Lib.hid HH
  have hEa : (E == 0) = false := by simpa using hE
  have hEb : (E != 0) = true := by simpa using hE
  replace hE := Lib.hid hE
  go_enter Tryz.func17, Tryz.ntmps17
  go_wp2
  refine wp_loop_rounds 4 ?_
  rw [rounds_succ]
  go_wp2_with (first | (go_at_call 40; (refine (HL.out _ _ (below3 _ _ _ _) (par_new _ _ _ _)).mono ?_; rintro e w1 ⟨rfl, hF1, hP1⟩; have hL1 := Lib.hid ((lies_new w _).far hF1); have hb1 := Lib.hid (bel_far (below3 _ _ _ _) hF1); clear hF1; obtain ⟨a, b, c, hws, hP1⟩ := hP1 zb25; clear hws; replace hP1 := Lib.hid hP1; have fc1_w1 : w1.cell? ⟨w.heap.size + 1 + 1, 1, none⟩ = some (.func (.func 41) #[.pointer (some ⟨w.heap.size + 1, 0, none⟩)] #[]) := (blk_cell hL1.out.fns 1).trans rfl; have fc2_w1 : w1.cell? ⟨w.heap.size + 1 + 1, 2, none⟩ = some (.func (.func 42) #[.pointer (some ⟨w.heap.size + 1, 0, none⟩)] #[]) := (blk_cell hL1.out.fns 2).trans rfl; have rc0_w1 : w1.cell? ⟨w.heap.size, 0, none⟩ = some (.string ⟨#[]⟩) := (blk_cell hL1.out.res 0).trans rfl; have rf0_w1 := blk_frozen hL1.out.res 0; have rc1_w1 : w1.cell? ⟨w.heap.size, 1, none⟩ = some (.string ⟨#[]⟩) := (blk_cell hL1.out.res 1).trans rfl; have rf1_w1 := blk_frozen hL1.out.res 1; have rc2_w1 : w1.cell? ⟨w.heap.size, 2, none⟩ = some (.slice none 0 0) := (blk_cell hL1.out.res 2).trans rfl; have rf2_w1 := blk_frozen hL1.out.res 2; have rc3_w1 : w1.cell? ⟨w.heap.size, 3, none⟩ = some (.string ⟨#[]⟩) := (blk_cell hL1.out.res 3).trans rfl; have rf3_w1 := blk_frozen hL1.out.res 3)) | (go_at_call 41; (refine (HH.out _ _ _ _ hb1.out hP1.out).mono ?_; rintro e w2 ⟨rfl, hF2, hP2⟩; have hL2 := Lib.hid (hL1.out.far hF2); have hb2 := Lib.hid (bel_far hb1.out hF2); clear hF2; clear hP2; have fc1_w2 : w2.cell? ⟨w.heap.size + 1 + 1, 1, none⟩ = some (.func (.func 41) #[.pointer (some ⟨w.heap.size + 1, 0, none⟩)] #[]) := (blk_cell hL2.out.fns 1).trans rfl; have fc2_w2 : w2.cell? ⟨w.heap.size + 1 + 1, 2, none⟩ = some (.func (.func 42) #[.pointer (some ⟨w.heap.size + 1, 0, none⟩)] #[]) := (blk_cell hL2.out.fns 2).trans rfl; have rc0_w2 : w2.cell? ⟨w.heap.size, 0, none⟩ = some (.string ⟨#[]⟩) := (blk_cell hL2.out.res 0).trans rfl; have rf0_w2 := blk_frozen hL2.out.res 0; have rc1_w2 : w2.cell? ⟨w.heap.size, 1, none⟩ = some (.string ⟨#[]⟩) := (blk_cell hL2.out.res 1).trans rfl; have rf1_w2 := blk_frozen hL2.out.res 1; have rc2_w2 : w2.cell? ⟨w.heap.size, 2, none⟩ = some (.slice none 0 0) := (blk_cell hL2.out.res 2).trans rfl; have rf2_w2 := blk_frozen hL2.out.res 2; have rc3_w2 : w2.cell? ⟨w.heap.size, 3, none⟩ = some (.string ⟨#[]⟩) := (blk_cell hL2.out.res 3).trans rfl; have rf3_w2 := blk_frozen hL2.out.res 3)))
  rw [rounds_succ]
  go_wp2_with (first | (go_at_call 40; (refine (HL.out _ _ (below3 _ _ _ _) (par_new _ _ _ _)).mono ?_; rintro e w1 ⟨rfl, hF1, hP1⟩; have hL1 := Lib.hid ((lies_new w _).far hF1); have hb1 := Lib.hid (bel_far (below3 _ _ _ _) hF1); clear hF1; obtain ⟨a, b, c, hws, hP1⟩ := hP1 zb25; clear hws; replace hP1 := Lib.hid hP1; have fc1_w1 : w1.cell? ⟨w.heap.size + 1 + 1, 1, none⟩ = some (.func (.func 41) #[.pointer (some ⟨w.heap.size + 1, 0, none⟩)] #[]) := (blk_cell hL1.out.fns 1).trans rfl; have fc2_w1 : w1.cell? ⟨w.heap.size + 1 + 1, 2, none⟩ = some (.func (.func 42) #[.pointer (some ⟨w.heap.size + 1, 0, none⟩)] #[]) := (blk_cell hL1.out.fns 2).trans rfl; have rc0_w1 : w1.cell? ⟨w.heap.size, 0, none⟩ = some (.string ⟨#[]⟩) := (blk_cell hL1.out.res 0).trans rfl; have rf0_w1 := blk_frozen hL1.out.res 0; have rc1_w1 : w1.cell? ⟨w.heap.size, 1, none⟩ = some (.string ⟨#[]⟩) := (blk_cell hL1.out.res 1).trans rfl; have rf1_w1 := blk_frozen hL1.out.res 1; have rc2_w1 : w1.cell? ⟨w.heap.size, 2, none⟩ = some (.slice none 0 0) := (blk_cell hL1.out.res 2).trans rfl; have rf2_w1 := blk_frozen hL1.out.res 2; have rc3_w1 : w1.cell? ⟨w.heap.size, 3, none⟩ = some (.string ⟨#[]⟩) := (blk_cell hL1.out.res 3).trans rfl; have rf3_w1 := blk_frozen hL1.out.res 3)) | (go_at_call 41; (refine (HH.out _ _ _ _ hb1.out hP1.out).mono ?_; rintro e w2 ⟨rfl, hF2, hP2⟩; have hL2 := Lib.hid (hL1.out.far hF2); have hb2 := Lib.hid (bel_far hb1.out hF2); clear hF2; clear hP2; have fc1_w2 : w2.cell? ⟨w.heap.size + 1 + 1, 1, none⟩ = some (.func (.func 41) #[.pointer (some ⟨w.heap.size + 1, 0, none⟩)] #[]) := (blk_cell hL2.out.fns 1).trans rfl; have fc2_w2 : w2.cell? ⟨w.heap.size + 1 + 1, 2, none⟩ = some (.func (.func 42) #[.pointer (some ⟨w.heap.size + 1, 0, none⟩)] #[]) := (blk_cell hL2.out.fns 2).trans rfl; have rc0_w2 : w2.cell? ⟨w.heap.size, 0, none⟩ = some (.string ⟨#[]⟩) := (blk_cell hL2.out.res 0).trans rfl; have rf0_w2 := blk_frozen hL2.out.res 0; have rc1_w2 : w2.cell? ⟨w.heap.size, 1, none⟩ = some (.string ⟨#[]⟩) := (blk_cell hL2.out.res 1).trans rfl; have rf1_w2 := blk_frozen hL2.out.res 1; have rc2_w2 : w2.cell? ⟨w.heap.size, 2, none⟩ = some (.slice none 0 0) := (blk_cell hL2.out.res 2).trans rfl; have rf2_w2 := blk_frozen hL2.out.res 2; have rc3_w2 : w2.cell? ⟨w.heap.size, 3, none⟩ = some (.string ⟨#[]⟩) := (blk_cell hL2.out.res 3).trans rfl; have rf3_w2 := blk_frozen hL2.out.res 3)))
  refine bodyPost_ret (results_ct rfl _ _ w.heap.size 36 #[.string ⟨#[]⟩, .string ⟨#[]⟩, .slice none 0 0, .string ⟨#[]⟩] (0, 0) _ rfl (by (with_reducible repeat (first | refine blk_drewN ?_ _ | refine blk_drew ?_ | refine blk_alloc ?_ _)); exact blk_put (blk_put (blk_put (blk_put hL2.out.res 0 _ rfl) 1 _ rfl) 2 _ rfl) 3 _ rfl) Tryz.underlying36 rfl zb15) rfl ?_
  exact ⟨rfl, (((hb2.out.setCell (p := ⟨w.heap.size, 0, none⟩) (Nat.le_refl _) _).setCell (p := ⟨w.heap.size, 1, none⟩) (Nat.le_refl _) _).setCell (p := ⟨w.heap.size, 2, none⟩) (Nat.le_refl _) _).setCell (p := ⟨w.heap.size, 3, none⟩) (Nat.le_refl _) _⟩
set_option maxHeartbeats 8000000 in
theorem req_err3 (s r r2 B : ByteArray) (ws : List ByteArray) (l : List S49) (E : Int) (w : World) (hE : E ≠ 0) (HL : LineDoes w s r ws 0) (HH : HeadDoes w r r2 l 0) (HB : BodyDoes w r2 B l E) :
    Calls Tryz.prog 17 #[.string s] w fun e w' => e = .returned (.tuple #[.agg #[.string ⟨#[]⟩, .string ⟨#[]⟩, .slice none 0 0, .string ⟨#[]⟩], .int .i64 E]) ∧ Below w.heap.size w w' := by
  unfold LineDoes LineEnd at HL
  replace HL := Lib.hid HL
  unfold HeadDoes HeadEnd at HH
  replace HH := Lib.hid HH
  unfold BodyDoes Ends at HB
  replace HB := Lib.hid HB
  have hEa : (E == 0) = false := by simpa using hE
  have hEb : (E != 0) = true := by simpa using hE
  replace hE := Lib.hid hE
  go_enter Tryz.func17, Tryz.ntmps17
  go_wp2
  refine wp_loop_rounds 4 ?_
  rw [rounds_succ]
  go_wp2_with (first | (go_at_call 40; (refine (HL.out _ _ (below3 _ _ _ _) (par_new _ _ _ _)).mono ?_; rintro e w1 ⟨rfl, hF1, hP1⟩; have hL1 := Lib.hid ((lies_new w _).far hF1); have hb1 := Lib.hid (bel_far (below3 _ _ _ _) hF1); clear hF1; obtain ⟨a, b, c, hws, hP1⟩ := hP1 zb25; clear hws; replace hP1 := Lib.hid hP1; have fc1_w1 : w1.cell? ⟨w.heap.size + 1 + 1, 1, none⟩ = some (.func (.func 41) #[.pointer (some ⟨w.heap.size + 1, 0, none⟩)] #[]) := (blk_cell hL1.out.fns 1).trans rfl; have fc2_w1 : w1.cell? ⟨w.heap.size + 1 + 1, 2, none⟩ = some (.func (.func 42) #[.pointer (some ⟨w.heap.size + 1, 0, none⟩)] #[]) := (blk_cell hL1.out.fns 2).trans rfl; have rc0_w1 : w1.cell? ⟨w.heap.size, 0, none⟩ = some (.string ⟨#[]⟩) := (blk_cell hL1.out.res 0).trans rfl; have rf0_w1 := blk_frozen hL1.out.res 0; have rc1_w1 : w1.cell? ⟨w.heap.size, 1, none⟩ = some (.string ⟨#[]⟩) := (blk_cell hL1.out.res 1).trans rfl; have rf1_w1 := blk_frozen hL1.out.res 1; have rc2_w1 : w1.cell? ⟨w.heap.size, 2, none⟩ = some (.slice none 0 0) := (blk_cell hL1.out.res 2).trans rfl; have rf2_w1 := blk_frozen hL1.out.res 2; have rc3_w1 : w1.cell? ⟨w.heap.size, 3, none⟩ = some (.string ⟨#[]⟩) := (blk_cell hL1.out.res 3).trans rfl; have rf3_w1 := blk_frozen hL1.out.res 3)) | (go_at_call 41; (refine (HH.out _ _ _ _ hb1.out hP1.out).mono ?_; rintro e w2 ⟨rfl, hF2, hP2⟩; have hL2 := Lib.hid (hL1.out.far hF2); have hb2 := Lib.hid (bel_far hb1.out hF2); clear hF2; obtain ⟨v, hP2, hR2⟩ := hP2 zb25; obtain ⟨Av, cv, rfl⟩ := Kd.R_slice hR2; replace hP2 := Lib.hid hP2; replace hR2 := Lib.hid (Kd.R_lower hR2 hb1.out.size); have fc1_w2 : w2.cell? ⟨w.heap.size + 1 + 1, 1, none⟩ = some (.func (.func 41) #[.pointer (some ⟨w.heap.size + 1, 0, none⟩)] #[]) := (blk_cell hL2.out.fns 1).trans rfl; have fc2_w2 : w2.cell? ⟨w.heap.size + 1 + 1, 2, none⟩ = some (.func (.func 42) #[.pointer (some ⟨w.heap.size + 1, 0, none⟩)] #[]) := (blk_cell hL2.out.fns 2).trans rfl; have rc0_w2 : w2.cell? ⟨w.heap.size, 0, none⟩ = some (.string ⟨#[]⟩) := (blk_cell hL2.out.res 0).trans rfl; have rf0_w2 := blk_frozen hL2.out.res 0; have rc1_w2 : w2.cell? ⟨w.heap.size, 1, none⟩ = some (.string ⟨#[]⟩) := (blk_cell hL2.out.res 1).trans rfl; have rf1_w2 := blk_frozen hL2.out.res 1; have rc2_w2 : w2.cell? ⟨w.heap.size, 2, none⟩ = some (.slice none 0 0) := (blk_cell hL2.out.res 2).trans rfl; have rf2_w2 := blk_frozen hL2.out.res 2; have rc3_w2 : w2.cell? ⟨w.heap.size, 3, none⟩ = some (.string ⟨#[]⟩) := (blk_cell hL2.out.res 3).trans rfl; have rf3_w2 := blk_frozen hL2.out.res 3)) | (go_at_call 42; (refine (HB.out _ _ _ _ _ _ hb2.out hP2.out hR2.out).mono ?_; rintro e w3 ⟨rfl, hF3, hP3⟩; have hL3 := Lib.hid (hL2.out.far hF3); have hb3 := Lib.hid (bel_far hb2.out hF3); clear hP3 hF3; have fc1_w3 : w3.cell? ⟨w.heap.size + 1 + 1, 1, none⟩ = some (.func (.func 41) #[.pointer (some ⟨w.heap.size + 1, 0, none⟩)] #[]) := (blk_cell hL3.out.fns 1).trans rfl; have fc2_w3 : w3.cell? ⟨w.heap.size + 1 + 1, 2, none⟩ = some (.func (.func 42) #[.pointer (some ⟨w.heap.size + 1, 0, none⟩)] #[]) := (blk_cell hL3.out.fns 2).trans rfl; have rc0_w3 : w3.cell? ⟨w.heap.size, 0, none⟩ = some (.string ⟨#[]⟩) := (blk_cell hL3.out.res 0).trans rfl; have rf0_w3 := blk_frozen hL3.out.res 0; have rc1_w3 : w3.cell? ⟨w.heap.size, 1, none⟩ = some (.string ⟨#[]⟩) := (blk_cell hL3.out.res 1).trans rfl; have rf1_w3 := blk_frozen hL3.out.res 1; have rc2_w3 : w3.cell? ⟨w.heap.size, 2, none⟩ = some (.slice none 0 0) := (blk_cell hL3.out.res 2).trans rfl; have rf2_w3 := blk_frozen hL3.out.res 2; have rc3_w3 : w3.cell? ⟨w.heap.size, 3, none⟩ = some (.string ⟨#[]⟩) := (blk_cell hL3.out.res 3).trans rfl; have rf3_w3 := blk_frozen hL3.out.res 3)))
  rw [rounds_succ]
  go_wp2_with (first | (go_at_call 40; (refine (HL.out _ _ (below3 _ _ _ _) (par_new _ _ _ _)).mono ?_; rintro e w1 ⟨rfl, hF1, hP1⟩; have hL1 := Lib.hid ((lies_new w _).far hF1); have hb1 := Lib.hid (bel_far (below3 _ _ _ _) hF1); clear hF1; obtain ⟨a, b, c, hws, hP1⟩ := hP1 zb25; clear hws; replace hP1 := Lib.hid hP1; have fc1_w1 : w1.cell? ⟨w.heap.size + 1 + 1, 1, none⟩ = some (.func (.func 41) #[.pointer (some ⟨w.heap.size + 1, 0, none⟩)] #[]) := (blk_cell hL1.out.fns 1).trans rfl; have fc2_w1 : w1.cell? ⟨w.heap.size + 1 + 1, 2, none⟩ = some (.func (.func 42) #[.pointer (some ⟨w.heap.size + 1, 0, none⟩)] #[]) := (blk_cell hL1.out.fns 2).trans rfl; have rc0_w1 : w1.cell? ⟨w.heap.size, 0, none⟩ = some (.string ⟨#[]⟩) := (blk_cell hL1.out.res 0).trans rfl; have rf0_w1 := blk_frozen hL1.out.res 0; have rc1_w1 : w1.cell? ⟨w.heap.size, 1, none⟩ = some (.string ⟨#[]⟩) := (blk_cell hL1.out.res 1).trans rfl; have rf1_w1 := blk_frozen hL1.out.res 1; have rc2_w1 : w1.cell? ⟨w.heap.size, 2, none⟩ = some (.slice none 0 0) := (blk_cell hL1.out.res 2).trans rfl; have rf2_w1 := blk_frozen hL1.out.res 2; have rc3_w1 : w1.cell? ⟨w.heap.size, 3, none⟩ = some (.string ⟨#[]⟩) := (blk_cell hL1.out.res 3).trans rfl; have rf3_w1 := blk_frozen hL1.out.res 3)) | (go_at_call 41; (refine (HH.out _ _ _ _ hb1.out hP1.out).mono ?_; rintro e w2 ⟨rfl, hF2, hP2⟩; have hL2 := Lib.hid (hL1.out.far hF2); have hb2 := Lib.hid (bel_far hb1.out hF2); clear hF2; obtain ⟨v, hP2, hR2⟩ := hP2 zb25; obtain ⟨Av, cv, rfl⟩ := Kd.R_slice hR2; replace hP2 := Lib.hid hP2; replace hR2 := Lib.hid (Kd.R_lower hR2 hb1.out.size); have fc1_w2 : w2.cell? ⟨w.heap.size + 1 + 1, 1, none⟩ = some (.func (.func 41) #[.pointer (some ⟨w.heap.size + 1, 0, none⟩)] #[]) := (blk_cell hL2.out.fns 1).trans rfl; have fc2_w2 : w2.cell? ⟨w.heap.size + 1 + 1, 2, none⟩ = some (.func (.func 42) #[.pointer (some ⟨w.heap.size + 1, 0, none⟩)] #[]) := (blk_cell hL2.out.fns 2).trans rfl; have rc0_w2 : w2.cell? ⟨w.heap.size, 0, none⟩ = some (.string ⟨#[]⟩) := (blk_cell hL2.out.res 0).trans rfl; have rf0_w2 := blk_frozen hL2.out.res 0; have rc1_w2 : w2.cell? ⟨w.heap.size, 1, none⟩ = some (.string ⟨#[]⟩) := (blk_cell hL2.out.res 1).trans rfl; have rf1_w2 := blk_frozen hL2.out.res 1; have rc2_w2 : w2.cell? ⟨w.heap.size, 2, none⟩ = some (.slice none 0 0) := (blk_cell hL2.out.res 2).trans rfl; have rf2_w2 := blk_frozen hL2.out.res 2; have rc3_w2 : w2.cell? ⟨w.heap.size, 3, none⟩ = some (.string ⟨#[]⟩) := (blk_cell hL2.out.res 3).trans rfl; have rf3_w2 := blk_frozen hL2.out.res 3)) | (go_at_call 42; (refine (HB.out _ _ _ _ _ _ hb2.out hP2.out hR2.out).mono ?_; rintro e w3 ⟨rfl, hF3, hP3⟩; have hL3 := Lib.hid (hL2.out.far hF3); have hb3 := Lib.hid (bel_far hb2.out hF3); clear hP3 hF3; have fc1_w3 : w3.cell? ⟨w.heap.size + 1 + 1, 1, none⟩ = some (.func (.func 41) #[.pointer (some ⟨w.heap.size + 1, 0, none⟩)] #[]) := (blk_cell hL3.out.fns 1).trans rfl; have fc2_w3 : w3.cell? ⟨w.heap.size + 1 + 1, 2, none⟩ = some (.func (.func 42) #[.pointer (some ⟨w.heap.size + 1, 0, none⟩)] #[]) := (blk_cell hL3.out.fns 2).trans rfl; have rc0_w3 : w3.cell? ⟨w.heap.size, 0, none⟩ = some (.string ⟨#[]⟩) := (blk_cell hL3.out.res 0).trans rfl; have rf0_w3 := blk_frozen hL3.out.res 0; have rc1_w3 : w3.cell? ⟨w.heap.size, 1, none⟩ = some (.string ⟨#[]⟩) := (blk_cell hL3.out.res 1).trans rfl; have rf1_w3 := blk_frozen hL3.out.res 1; have rc2_w3 : w3.cell? ⟨w.heap.size, 2, none⟩ = some (.slice none 0 0) := (blk_cell hL3.out.res 2).trans rfl; have rf2_w3 := blk_frozen hL3.out.res 2; have rc3_w3 : w3.cell? ⟨w.heap.size, 3, none⟩ = some (.string ⟨#[]⟩) := (blk_cell hL3.out.res 3).trans rfl; have rf3_w3 := blk_frozen hL3.out.res 3)))
  rw [rounds_succ]
  go_wp2_with (first | (go_at_call 40; (refine (HL.out _ _ (below3 _ _ _ _) (par_new _ _ _ _)).mono ?_; rintro e w1 ⟨rfl, hF1, hP1⟩; have hL1 := Lib.hid ((lies_new w _).far hF1); have hb1 := Lib.hid (bel_far (below3 _ _ _ _) hF1); clear hF1; obtain ⟨a, b, c, hws, hP1⟩ := hP1 zb25; clear hws; replace hP1 := Lib.hid hP1; have fc1_w1 : w1.cell? ⟨w.heap.size + 1 + 1, 1, none⟩ = some (.func (.func 41) #[.pointer (some ⟨w.heap.size + 1, 0, none⟩)] #[]) := (blk_cell hL1.out.fns 1).trans rfl; have fc2_w1 : w1.cell? ⟨w.heap.size + 1 + 1, 2, none⟩ = some (.func (.func 42) #[.pointer (some ⟨w.heap.size + 1, 0, none⟩)] #[]) := (blk_cell hL1.out.fns 2).trans rfl; have rc0_w1 : w1.cell? ⟨w.heap.size, 0, none⟩ = some (.string ⟨#[]⟩) := (blk_cell hL1.out.res 0).trans rfl; have rf0_w1 := blk_frozen hL1.out.res 0; have rc1_w1 : w1.cell? ⟨w.heap.size, 1, none⟩ = some (.string ⟨#[]⟩) := (blk_cell hL1.out.res 1).trans rfl; have rf1_w1 := blk_frozen hL1.out.res 1; have rc2_w1 : w1.cell? ⟨w.heap.size, 2, none⟩ = some (.slice none 0 0) := (blk_cell hL1.out.res 2).trans rfl; have rf2_w1 := blk_frozen hL1.out.res 2; have rc3_w1 : w1.cell? ⟨w.heap.size, 3, none⟩ = some (.string ⟨#[]⟩) := (blk_cell hL1.out.res 3).trans rfl; have rf3_w1 := blk_frozen hL1.out.res 3)) | (go_at_call 41; (refine (HH.out _ _ _ _ hb1.out hP1.out).mono ?_; rintro e w2 ⟨rfl, hF2, hP2⟩; have hL2 := Lib.hid (hL1.out.far hF2); have hb2 := Lib.hid (bel_far hb1.out hF2); clear hF2; obtain ⟨v, hP2, hR2⟩ := hP2 zb25; obtain ⟨Av, cv, rfl⟩ := Kd.R_slice hR2; replace hP2 := Lib.hid hP2; replace hR2 := Lib.hid (Kd.R_lower hR2 hb1.out.size); have fc1_w2 : w2.cell? ⟨w.heap.size + 1 + 1, 1, none⟩ = some (.func (.func 41) #[.pointer (some ⟨w.heap.size + 1, 0, none⟩)] #[]) := (blk_cell hL2.out.fns 1).trans rfl; have fc2_w2 : w2.cell? ⟨w.heap.size + 1 + 1, 2, none⟩ = some (.func (.func 42) #[.pointer (some ⟨w.heap.size + 1, 0, none⟩)] #[]) := (blk_cell hL2.out.fns 2).trans rfl; have rc0_w2 : w2.cell? ⟨w.heap.size, 0, none⟩ = some (.string ⟨#[]⟩) := (blk_cell hL2.out.res 0).trans rfl; have rf0_w2 := blk_frozen hL2.out.res 0; have rc1_w2 : w2.cell? ⟨w.heap.size, 1, none⟩ = some (.string ⟨#[]⟩) := (blk_cell hL2.out.res 1).trans rfl; have rf1_w2 := blk_frozen hL2.out.res 1; have rc2_w2 : w2.cell? ⟨w.heap.size, 2, none⟩ = some (.slice none 0 0) := (blk_cell hL2.out.res 2).trans rfl; have rf2_w2 := blk_frozen hL2.out.res 2; have rc3_w2 : w2.cell? ⟨w.heap.size, 3, none⟩ = some (.string ⟨#[]⟩) := (blk_cell hL2.out.res 3).trans rfl; have rf3_w2 := blk_frozen hL2.out.res 3)) | (go_at_call 42; (refine (HB.out _ _ _ _ _ _ hb2.out hP2.out hR2.out).mono ?_; rintro e w3 ⟨rfl, hF3, hP3⟩; have hL3 := Lib.hid (hL2.out.far hF3); have hb3 := Lib.hid (bel_far hb2.out hF3); clear hP3 hF3; have fc1_w3 : w3.cell? ⟨w.heap.size + 1 + 1, 1, none⟩ = some (.func (.func 41) #[.pointer (some ⟨w.heap.size + 1, 0, none⟩)] #[]) := (blk_cell hL3.out.fns 1).trans rfl; have fc2_w3 : w3.cell? ⟨w.heap.size + 1 + 1, 2, none⟩ = some (.func (.func 42) #[.pointer (some ⟨w.heap.size + 1, 0, none⟩)] #[]) := (blk_cell hL3.out.fns 2).trans rfl; have rc0_w3 : w3.cell? ⟨w.heap.size, 0, none⟩ = some (.string ⟨#[]⟩) := (blk_cell hL3.out.res 0).trans rfl; have rf0_w3 := blk_frozen hL3.out.res 0; have rc1_w3 : w3.cell? ⟨w.heap.size, 1, none⟩ = some (.string ⟨#[]⟩) := (blk_cell hL3.out.res 1).trans rfl; have rf1_w3 := blk_frozen hL3.out.res 1; have rc2_w3 : w3.cell? ⟨w.heap.size, 2, none⟩ = some (.slice none 0 0) := (blk_cell hL3.out.res 2).trans rfl; have rf2_w3 := blk_frozen hL3.out.res 2; have rc3_w3 : w3.cell? ⟨w.heap.size, 3, none⟩ = some (.string ⟨#[]⟩) := (blk_cell hL3.out.res 3).trans rfl; have rf3_w3 := blk_frozen hL3.out.res 3)))
  refine bodyPost_ret (results_ct rfl _ _ w.heap.size 36 #[.string ⟨#[]⟩, .string ⟨#[]⟩, .slice none 0 0, .string ⟨#[]⟩] (0, 0) _ rfl (by (with_reducible repeat (first | refine blk_drewN ?_ _ | refine blk_drew ?_ | refine blk_alloc ?_ _)); exact blk_put (blk_put (blk_put (blk_put hL3.out.res 0 _ rfl) 1 _ rfl) 2 _ rfl) 3 _ rfl) Tryz.underlying36 rfl zb15) rfl ?_
  exact ⟨rfl, (((hb3.out.setCell (p := ⟨w.heap.size, 0, none⟩) (Nat.le_refl _) _).setCell (p := ⟨w.heap.size, 1, none⟩) (Nat.le_refl _) _).setCell (p := ⟨w.heap.size, 2, none⟩) (Nat.le_refl _) _).setCell (p := ⟨w.heap.size, 3, none⟩) (Nat.le_refl _) _⟩
set_option maxHeartbeats 8000000 in
theorem req_ok (s r r2 B : ByteArray) (ws : List ByteArray) (l : List S49) (w : World) (HL : LineDoes w s r ws 0) (HH : HeadDoes w r r2 l 0) (HB : BodyDoes w r2 B l 0) :
    Calls Tryz.prog 17 #[.string s] w fun e w' => ∃ (a b c : ByteArray) (v0_ : Value), ws = [a, b, c] ∧ e = .returned (.tuple #[.agg #[.string a, .string b, v0_, .string B], .int .i64 0]) ∧ Kd.R k49 49 w' w.heap.size (fun _ => True) v0_ l ∧ Below w.heap.size w w' := by
  unfold LineDoes LineEnd at HL
  replace HL := Lib.hid HL
  unfold HeadDoes HeadEnd at HH
  replace HH := Lib.hid HH
  unfold BodyDoes Ends at HB
  replace HB := Lib.hid HB
  go_enter Tryz.func17, Tryz.ntmps17
  go_wp2
  refine wp_loop_rounds 4 ?_
  rw [rounds_succ]
  go_wp2_with (first | (go_at_call 40; (refine (HL.out _ _ (below3 _ _ _ _) (par_new _ _ _ _)).mono ?_; rintro e w1 ⟨rfl, hF1, hP1⟩; have hL1 := Lib.hid ((lies_new w _).far hF1); have hb1 := Lib.hid (bel_far (below3 _ _ _ _) hF1); clear hF1; obtain ⟨a, b, c, hws, hP1⟩ := hP1 zb25; replace hws := Lib.hid hws; replace hP1 := Lib.hid hP1; have fc1_w1 : w1.cell? ⟨w.heap.size + 1 + 1, 1, none⟩ = some (.func (.func 41) #[.pointer (some ⟨w.heap.size + 1, 0, none⟩)] #[]) := (blk_cell hL1.out.fns 1).trans rfl; have fc2_w1 : w1.cell? ⟨w.heap.size + 1 + 1, 2, none⟩ = some (.func (.func 42) #[.pointer (some ⟨w.heap.size + 1, 0, none⟩)] #[]) := (blk_cell hL1.out.fns 2).trans rfl; have rc0_w1 : w1.cell? ⟨w.heap.size, 0, none⟩ = some (.string ⟨#[]⟩) := (blk_cell hL1.out.res 0).trans rfl; have rf0_w1 := blk_frozen hL1.out.res 0; have rc1_w1 : w1.cell? ⟨w.heap.size, 1, none⟩ = some (.string ⟨#[]⟩) := (blk_cell hL1.out.res 1).trans rfl; have rf1_w1 := blk_frozen hL1.out.res 1; have rc2_w1 : w1.cell? ⟨w.heap.size, 2, none⟩ = some (.slice none 0 0) := (blk_cell hL1.out.res 2).trans rfl; have rf2_w1 := blk_frozen hL1.out.res 2; have rc3_w1 : w1.cell? ⟨w.heap.size, 3, none⟩ = some (.string ⟨#[]⟩) := (blk_cell hL1.out.res 3).trans rfl; have rf3_w1 := blk_frozen hL1.out.res 3)) | (go_at_call 41; (refine (HH.out _ _ _ _ hb1.out hP1.out).mono ?_; rintro e w2 ⟨rfl, hF2, hP2⟩; have hL2 := Lib.hid (hL1.out.far hF2); have hb2 := Lib.hid (bel_far hb1.out hF2); clear hF2; obtain ⟨v, hP2, hR2⟩ := hP2 zb25; obtain ⟨Av, cv, rfl⟩ := Kd.R_slice hR2; replace hP2 := Lib.hid hP2; replace hR2 := Lib.hid (Kd.R_lower hR2 hb1.out.size); have fc1_w2 : w2.cell? ⟨w.heap.size + 1 + 1, 1, none⟩ = some (.func (.func 41) #[.pointer (some ⟨w.heap.size + 1, 0, none⟩)] #[]) := (blk_cell hL2.out.fns 1).trans rfl; have fc2_w2 : w2.cell? ⟨w.heap.size + 1 + 1, 2, none⟩ = some (.func (.func 42) #[.pointer (some ⟨w.heap.size + 1, 0, none⟩)] #[]) := (blk_cell hL2.out.fns 2).trans rfl; have rc0_w2 : w2.cell? ⟨w.heap.size, 0, none⟩ = some (.string ⟨#[]⟩) := (blk_cell hL2.out.res 0).trans rfl; have rf0_w2 := blk_frozen hL2.out.res 0; have rc1_w2 : w2.cell? ⟨w.heap.size, 1, none⟩ = some (.string ⟨#[]⟩) := (blk_cell hL2.out.res 1).trans rfl; have rf1_w2 := blk_frozen hL2.out.res 1; have rc2_w2 : w2.cell? ⟨w.heap.size, 2, none⟩ = some (.slice none 0 0) := (blk_cell hL2.out.res 2).trans rfl; have rf2_w2 := blk_frozen hL2.out.res 2; have rc3_w2 : w2.cell? ⟨w.heap.size, 3, none⟩ = some (.string ⟨#[]⟩) := (blk_cell hL2.out.res 3).trans rfl; have rf3_w2 := blk_frozen hL2.out.res 3)) | (go_at_call 42; (refine (HB.out _ _ _ _ _ _ hb2.out hP2.out hR2.out).mono ?_; rintro e w3 ⟨rfl, hF3, hP3⟩; have hL3 := Lib.hid (hL2.out.far hF3); have hb3 := Lib.hid (bel_far hb2.out hF3); obtain ⟨s3, hP3⟩ := hP3 zb25; have hR3 := Lib.hid (row_far_g hR2.out hP2.out hF3); clear hF3; have c1 : w3.cell? ⟨w.heap.size + 1, 1, none⟩ = some (.string a) := (blk_cell hP3 1).trans rfl; have c2 : w3.cell? ⟨w.heap.size + 1, 2, none⟩ = some (.string b) := (blk_cell hP3 2).trans rfl; have c3 : w3.cell? ⟨w.heap.size + 1, 3, none⟩ = some (.slice Av l.length cv) := (blk_cell hP3 3).trans rfl; have c4 : w3.cell? ⟨w.heap.size + 1, 4, none⟩ = some (.string B) := (blk_cell hP3 4).trans rfl; replace hP3 := Lib.hid hP3; have fc1_w3 : w3.cell? ⟨w.heap.size + 1 + 1, 1, none⟩ = some (.func (.func 41) #[.pointer (some ⟨w.heap.size + 1, 0, none⟩)] #[]) := (blk_cell hL3.out.fns 1).trans rfl; have fc2_w3 : w3.cell? ⟨w.heap.size + 1 + 1, 2, none⟩ = some (.func (.func 42) #[.pointer (some ⟨w.heap.size + 1, 0, none⟩)] #[]) := (blk_cell hL3.out.fns 2).trans rfl; have rc0_w3 : w3.cell? ⟨w.heap.size, 0, none⟩ = some (.string ⟨#[]⟩) := (blk_cell hL3.out.res 0).trans rfl; have rf0_w3 := blk_frozen hL3.out.res 0; have rc1_w3 : w3.cell? ⟨w.heap.size, 1, none⟩ = some (.string ⟨#[]⟩) := (blk_cell hL3.out.res 1).trans rfl; have rf1_w3 := blk_frozen hL3.out.res 1; have rc2_w3 : w3.cell? ⟨w.heap.size, 2, none⟩ = some (.slice none 0 0) := (blk_cell hL3.out.res 2).trans rfl; have rf2_w3 := blk_frozen hL3.out.res 2; have rc3_w3 : w3.cell? ⟨w.heap.size, 3, none⟩ = some (.string ⟨#[]⟩) := (blk_cell hL3.out.res 3).trans rfl; have rf3_w3 := blk_frozen hL3.out.res 3)))
  rw [rounds_succ]
  go_wp2_with (first | (go_at_call 40; (refine (HL.out _ _ (below3 _ _ _ _) (par_new _ _ _ _)).mono ?_; rintro e w1 ⟨rfl, hF1, hP1⟩; have hL1 := Lib.hid ((lies_new w _).far hF1); have hb1 := Lib.hid (bel_far (below3 _ _ _ _) hF1); clear hF1; obtain ⟨a, b, c, hws, hP1⟩ := hP1 zb25; replace hws := Lib.hid hws; replace hP1 := Lib.hid hP1; have fc1_w1 : w1.cell? ⟨w.heap.size + 1 + 1, 1, none⟩ = some (.func (.func 41) #[.pointer (some ⟨w.heap.size + 1, 0, none⟩)] #[]) := (blk_cell hL1.out.fns 1).trans rfl; have fc2_w1 : w1.cell? ⟨w.heap.size + 1 + 1, 2, none⟩ = some (.func (.func 42) #[.pointer (some ⟨w.heap.size + 1, 0, none⟩)] #[]) := (blk_cell hL1.out.fns 2).trans rfl; have rc0_w1 : w1.cell? ⟨w.heap.size, 0, none⟩ = some (.string ⟨#[]⟩) := (blk_cell hL1.out.res 0).trans rfl; have rf0_w1 := blk_frozen hL1.out.res 0; have rc1_w1 : w1.cell? ⟨w.heap.size, 1, none⟩ = some (.string ⟨#[]⟩) := (blk_cell hL1.out.res 1).trans rfl; have rf1_w1 := blk_frozen hL1.out.res 1; have rc2_w1 : w1.cell? ⟨w.heap.size, 2, none⟩ = some (.slice none 0 0) := (blk_cell hL1.out.res 2).trans rfl; have rf2_w1 := blk_frozen hL1.out.res 2; have rc3_w1 : w1.cell? ⟨w.heap.size, 3, none⟩ = some (.string ⟨#[]⟩) := (blk_cell hL1.out.res 3).trans rfl; have rf3_w1 := blk_frozen hL1.out.res 3)) | (go_at_call 41; (refine (HH.out _ _ _ _ hb1.out hP1.out).mono ?_; rintro e w2 ⟨rfl, hF2, hP2⟩; have hL2 := Lib.hid (hL1.out.far hF2); have hb2 := Lib.hid (bel_far hb1.out hF2); clear hF2; obtain ⟨v, hP2, hR2⟩ := hP2 zb25; obtain ⟨Av, cv, rfl⟩ := Kd.R_slice hR2; replace hP2 := Lib.hid hP2; replace hR2 := Lib.hid (Kd.R_lower hR2 hb1.out.size); have fc1_w2 : w2.cell? ⟨w.heap.size + 1 + 1, 1, none⟩ = some (.func (.func 41) #[.pointer (some ⟨w.heap.size + 1, 0, none⟩)] #[]) := (blk_cell hL2.out.fns 1).trans rfl; have fc2_w2 : w2.cell? ⟨w.heap.size + 1 + 1, 2, none⟩ = some (.func (.func 42) #[.pointer (some ⟨w.heap.size + 1, 0, none⟩)] #[]) := (blk_cell hL2.out.fns 2).trans rfl; have rc0_w2 : w2.cell? ⟨w.heap.size, 0, none⟩ = some (.string ⟨#[]⟩) := (blk_cell hL2.out.res 0).trans rfl; have rf0_w2 := blk_frozen hL2.out.res 0; have rc1_w2 : w2.cell? ⟨w.heap.size, 1, none⟩ = some (.string ⟨#[]⟩) := (blk_cell hL2.out.res 1).trans rfl; have rf1_w2 := blk_frozen hL2.out.res 1; have rc2_w2 : w2.cell? ⟨w.heap.size, 2, none⟩ = some (.slice none 0 0) := (blk_cell hL2.out.res 2).trans rfl; have rf2_w2 := blk_frozen hL2.out.res 2; have rc3_w2 : w2.cell? ⟨w.heap.size, 3, none⟩ = some (.string ⟨#[]⟩) := (blk_cell hL2.out.res 3).trans rfl; have rf3_w2 := blk_frozen hL2.out.res 3)) | (go_at_call 42; (refine (HB.out _ _ _ _ _ _ hb2.out hP2.out hR2.out).mono ?_; rintro e w3 ⟨rfl, hF3, hP3⟩; have hL3 := Lib.hid (hL2.out.far hF3); have hb3 := Lib.hid (bel_far hb2.out hF3); obtain ⟨s3, hP3⟩ := hP3 zb25; have hR3 := Lib.hid (row_far_g hR2.out hP2.out hF3); clear hF3; have c1 : w3.cell? ⟨w.heap.size + 1, 1, none⟩ = some (.string a) := (blk_cell hP3 1).trans rfl; have c2 : w3.cell? ⟨w.heap.size + 1, 2, none⟩ = some (.string b) := (blk_cell hP3 2).trans rfl; have c3 : w3.cell? ⟨w.heap.size + 1, 3, none⟩ = some (.slice Av l.length cv) := (blk_cell hP3 3).trans rfl; have c4 : w3.cell? ⟨w.heap.size + 1, 4, none⟩ = some (.string B) := (blk_cell hP3 4).trans rfl; replace hP3 := Lib.hid hP3; have fc1_w3 : w3.cell? ⟨w.heap.size + 1 + 1, 1, none⟩ = some (.func (.func 41) #[.pointer (some ⟨w.heap.size + 1, 0, none⟩)] #[]) := (blk_cell hL3.out.fns 1).trans rfl; have fc2_w3 : w3.cell? ⟨w.heap.size + 1 + 1, 2, none⟩ = some (.func (.func 42) #[.pointer (some ⟨w.heap.size + 1, 0, none⟩)] #[]) := (blk_cell hL3.out.fns 2).trans rfl; have rc0_w3 : w3.cell? ⟨w.heap.size, 0, none⟩ = some (.string ⟨#[]⟩) := (blk_cell hL3.out.res 0).trans rfl; have rf0_w3 := blk_frozen hL3.out.res 0; have rc1_w3 : w3.cell? ⟨w.heap.size, 1, none⟩ = some (.string ⟨#[]⟩) := (blk_cell hL3.out.res 1).trans rfl; have rf1_w3 := blk_frozen hL3.out.res 1; have rc2_w3 : w3.cell? ⟨w.heap.size, 2, none⟩ = some (.slice none 0 0) := (blk_cell hL3.out.res 2).trans rfl; have rf2_w3 := blk_frozen hL3.out.res 2; have rc3_w3 : w3.cell? ⟨w.heap.size, 3, none⟩ = some (.string ⟨#[]⟩) := (blk_cell hL3.out.res 3).trans rfl; have rf3_w3 := blk_frozen hL3.out.res 3)))
  rw [rounds_succ]
  go_wp2_with (first | (go_at_call 40; (refine (HL.out _ _ (below3 _ _ _ _) (par_new _ _ _ _)).mono ?_; rintro e w1 ⟨rfl, hF1, hP1⟩; have hL1 := Lib.hid ((lies_new w _).far hF1); have hb1 := Lib.hid (bel_far (below3 _ _ _ _) hF1); clear hF1; obtain ⟨a, b, c, hws, hP1⟩ := hP1 zb25; replace hws := Lib.hid hws; replace hP1 := Lib.hid hP1; have fc1_w1 : w1.cell? ⟨w.heap.size + 1 + 1, 1, none⟩ = some (.func (.func 41) #[.pointer (some ⟨w.heap.size + 1, 0, none⟩)] #[]) := (blk_cell hL1.out.fns 1).trans rfl; have fc2_w1 : w1.cell? ⟨w.heap.size + 1 + 1, 2, none⟩ = some (.func (.func 42) #[.pointer (some ⟨w.heap.size + 1, 0, none⟩)] #[]) := (blk_cell hL1.out.fns 2).trans rfl; have rc0_w1 : w1.cell? ⟨w.heap.size, 0, none⟩ = some (.string ⟨#[]⟩) := (blk_cell hL1.out.res 0).trans rfl; have rf0_w1 := blk_frozen hL1.out.res 0; have rc1_w1 : w1.cell? ⟨w.heap.size, 1, none⟩ = some (.string ⟨#[]⟩) := (blk_cell hL1.out.res 1).trans rfl; have rf1_w1 := blk_frozen hL1.out.res 1; have rc2_w1 : w1.cell? ⟨w.heap.size, 2, none⟩ = some (.slice none 0 0) := (blk_cell hL1.out.res 2).trans rfl; have rf2_w1 := blk_frozen hL1.out.res 2; have rc3_w1 : w1.cell? ⟨w.heap.size, 3, none⟩ = some (.string ⟨#[]⟩) := (blk_cell hL1.out.res 3).trans rfl; have rf3_w1 := blk_frozen hL1.out.res 3)) | (go_at_call 41; (refine (HH.out _ _ _ _ hb1.out hP1.out).mono ?_; rintro e w2 ⟨rfl, hF2, hP2⟩; have hL2 := Lib.hid (hL1.out.far hF2); have hb2 := Lib.hid (bel_far hb1.out hF2); clear hF2; obtain ⟨v, hP2, hR2⟩ := hP2 zb25; obtain ⟨Av, cv, rfl⟩ := Kd.R_slice hR2; replace hP2 := Lib.hid hP2; replace hR2 := Lib.hid (Kd.R_lower hR2 hb1.out.size); have fc1_w2 : w2.cell? ⟨w.heap.size + 1 + 1, 1, none⟩ = some (.func (.func 41) #[.pointer (some ⟨w.heap.size + 1, 0, none⟩)] #[]) := (blk_cell hL2.out.fns 1).trans rfl; have fc2_w2 : w2.cell? ⟨w.heap.size + 1 + 1, 2, none⟩ = some (.func (.func 42) #[.pointer (some ⟨w.heap.size + 1, 0, none⟩)] #[]) := (blk_cell hL2.out.fns 2).trans rfl; have rc0_w2 : w2.cell? ⟨w.heap.size, 0, none⟩ = some (.string ⟨#[]⟩) := (blk_cell hL2.out.res 0).trans rfl; have rf0_w2 := blk_frozen hL2.out.res 0; have rc1_w2 : w2.cell? ⟨w.heap.size, 1, none⟩ = some (.string ⟨#[]⟩) := (blk_cell hL2.out.res 1).trans rfl; have rf1_w2 := blk_frozen hL2.out.res 1; have rc2_w2 : w2.cell? ⟨w.heap.size, 2, none⟩ = some (.slice none 0 0) := (blk_cell hL2.out.res 2).trans rfl; have rf2_w2 := blk_frozen hL2.out.res 2; have rc3_w2 : w2.cell? ⟨w.heap.size, 3, none⟩ = some (.string ⟨#[]⟩) := (blk_cell hL2.out.res 3).trans rfl; have rf3_w2 := blk_frozen hL2.out.res 3)) | (go_at_call 42; (refine (HB.out _ _ _ _ _ _ hb2.out hP2.out hR2.out).mono ?_; rintro e w3 ⟨rfl, hF3, hP3⟩; have hL3 := Lib.hid (hL2.out.far hF3); have hb3 := Lib.hid (bel_far hb2.out hF3); obtain ⟨s3, hP3⟩ := hP3 zb25; have hR3 := Lib.hid (row_far_g hR2.out hP2.out hF3); clear hF3; have c1 : w3.cell? ⟨w.heap.size + 1, 1, none⟩ = some (.string a) := (blk_cell hP3 1).trans rfl; have c2 : w3.cell? ⟨w.heap.size + 1, 2, none⟩ = some (.string b) := (blk_cell hP3 2).trans rfl; have c3 : w3.cell? ⟨w.heap.size + 1, 3, none⟩ = some (.slice Av l.length cv) := (blk_cell hP3 3).trans rfl; have c4 : w3.cell? ⟨w.heap.size + 1, 4, none⟩ = some (.string B) := (blk_cell hP3 4).trans rfl; replace hP3 := Lib.hid hP3; have fc1_w3 : w3.cell? ⟨w.heap.size + 1 + 1, 1, none⟩ = some (.func (.func 41) #[.pointer (some ⟨w.heap.size + 1, 0, none⟩)] #[]) := (blk_cell hL3.out.fns 1).trans rfl; have fc2_w3 : w3.cell? ⟨w.heap.size + 1 + 1, 2, none⟩ = some (.func (.func 42) #[.pointer (some ⟨w.heap.size + 1, 0, none⟩)] #[]) := (blk_cell hL3.out.fns 2).trans rfl; have rc0_w3 : w3.cell? ⟨w.heap.size, 0, none⟩ = some (.string ⟨#[]⟩) := (blk_cell hL3.out.res 0).trans rfl; have rf0_w3 := blk_frozen hL3.out.res 0; have rc1_w3 : w3.cell? ⟨w.heap.size, 1, none⟩ = some (.string ⟨#[]⟩) := (blk_cell hL3.out.res 1).trans rfl; have rf1_w3 := blk_frozen hL3.out.res 1; have rc2_w3 : w3.cell? ⟨w.heap.size, 2, none⟩ = some (.slice none 0 0) := (blk_cell hL3.out.res 2).trans rfl; have rf2_w3 := blk_frozen hL3.out.res 2; have rc3_w3 : w3.cell? ⟨w.heap.size, 3, none⟩ = some (.string ⟨#[]⟩) := (blk_cell hL3.out.res 3).trans rfl; have rf3_w3 := blk_frozen hL3.out.res 3)))
  rw [rounds_succ]
  go_wp2_with (first | (go_at_call 40; (refine (HL.out _ _ (below3 _ _ _ _) (par_new _ _ _ _)).mono ?_; rintro e w1 ⟨rfl, hF1, hP1⟩; have hL1 := Lib.hid ((lies_new w _).far hF1); have hb1 := Lib.hid (bel_far (below3 _ _ _ _) hF1); clear hF1; obtain ⟨a, b, c, hws, hP1⟩ := hP1 zb25; replace hws := Lib.hid hws; replace hP1 := Lib.hid hP1; have fc1_w1 : w1.cell? ⟨w.heap.size + 1 + 1, 1, none⟩ = some (.func (.func 41) #[.pointer (some ⟨w.heap.size + 1, 0, none⟩)] #[]) := (blk_cell hL1.out.fns 1).trans rfl; have fc2_w1 : w1.cell? ⟨w.heap.size + 1 + 1, 2, none⟩ = some (.func (.func 42) #[.pointer (some ⟨w.heap.size + 1, 0, none⟩)] #[]) := (blk_cell hL1.out.fns 2).trans rfl; have rc0_w1 : w1.cell? ⟨w.heap.size, 0, none⟩ = some (.string ⟨#[]⟩) := (blk_cell hL1.out.res 0).trans rfl; have rf0_w1 := blk_frozen hL1.out.res 0; have rc1_w1 : w1.cell? ⟨w.heap.size, 1, none⟩ = some (.string ⟨#[]⟩) := (blk_cell hL1.out.res 1).trans rfl; have rf1_w1 := blk_frozen hL1.out.res 1; have rc2_w1 : w1.cell? ⟨w.heap.size, 2, none⟩ = some (.slice none 0 0) := (blk_cell hL1.out.res 2).trans rfl; have rf2_w1 := blk_frozen hL1.out.res 2; have rc3_w1 : w1.cell? ⟨w.heap.size, 3, none⟩ = some (.string ⟨#[]⟩) := (blk_cell hL1.out.res 3).trans rfl; have rf3_w1 := blk_frozen hL1.out.res 3)) | (go_at_call 41; (refine (HH.out _ _ _ _ hb1.out hP1.out).mono ?_; rintro e w2 ⟨rfl, hF2, hP2⟩; have hL2 := Lib.hid (hL1.out.far hF2); have hb2 := Lib.hid (bel_far hb1.out hF2); clear hF2; obtain ⟨v, hP2, hR2⟩ := hP2 zb25; obtain ⟨Av, cv, rfl⟩ := Kd.R_slice hR2; replace hP2 := Lib.hid hP2; replace hR2 := Lib.hid (Kd.R_lower hR2 hb1.out.size); have fc1_w2 : w2.cell? ⟨w.heap.size + 1 + 1, 1, none⟩ = some (.func (.func 41) #[.pointer (some ⟨w.heap.size + 1, 0, none⟩)] #[]) := (blk_cell hL2.out.fns 1).trans rfl; have fc2_w2 : w2.cell? ⟨w.heap.size + 1 + 1, 2, none⟩ = some (.func (.func 42) #[.pointer (some ⟨w.heap.size + 1, 0, none⟩)] #[]) := (blk_cell hL2.out.fns 2).trans rfl; have rc0_w2 : w2.cell? ⟨w.heap.size, 0, none⟩ = some (.string ⟨#[]⟩) := (blk_cell hL2.out.res 0).trans rfl; have rf0_w2 := blk_frozen hL2.out.res 0; have rc1_w2 : w2.cell? ⟨w.heap.size, 1, none⟩ = some (.string ⟨#[]⟩) := (blk_cell hL2.out.res 1).trans rfl; have rf1_w2 := blk_frozen hL2.out.res 1; have rc2_w2 : w2.cell? ⟨w.heap.size, 2, none⟩ = some (.slice none 0 0) := (blk_cell hL2.out.res 2).trans rfl; have rf2_w2 := blk_frozen hL2.out.res 2; have rc3_w2 : w2.cell? ⟨w.heap.size, 3, none⟩ = some (.string ⟨#[]⟩) := (blk_cell hL2.out.res 3).trans rfl; have rf3_w2 := blk_frozen hL2.out.res 3)) | (go_at_call 42; (refine (HB.out _ _ _ _ _ _ hb2.out hP2.out hR2.out).mono ?_; rintro e w3 ⟨rfl, hF3, hP3⟩; have hL3 := Lib.hid (hL2.out.far hF3); have hb3 := Lib.hid (bel_far hb2.out hF3); obtain ⟨s3, hP3⟩ := hP3 zb25; have hR3 := Lib.hid (row_far_g hR2.out hP2.out hF3); clear hF3; have c1 : w3.cell? ⟨w.heap.size + 1, 1, none⟩ = some (.string a) := (blk_cell hP3 1).trans rfl; have c2 : w3.cell? ⟨w.heap.size + 1, 2, none⟩ = some (.string b) := (blk_cell hP3 2).trans rfl; have c3 : w3.cell? ⟨w.heap.size + 1, 3, none⟩ = some (.slice Av l.length cv) := (blk_cell hP3 3).trans rfl; have c4 : w3.cell? ⟨w.heap.size + 1, 4, none⟩ = some (.string B) := (blk_cell hP3 4).trans rfl; replace hP3 := Lib.hid hP3; have fc1_w3 : w3.cell? ⟨w.heap.size + 1 + 1, 1, none⟩ = some (.func (.func 41) #[.pointer (some ⟨w.heap.size + 1, 0, none⟩)] #[]) := (blk_cell hL3.out.fns 1).trans rfl; have fc2_w3 : w3.cell? ⟨w.heap.size + 1 + 1, 2, none⟩ = some (.func (.func 42) #[.pointer (some ⟨w.heap.size + 1, 0, none⟩)] #[]) := (blk_cell hL3.out.fns 2).trans rfl; have rc0_w3 : w3.cell? ⟨w.heap.size, 0, none⟩ = some (.string ⟨#[]⟩) := (blk_cell hL3.out.res 0).trans rfl; have rf0_w3 := blk_frozen hL3.out.res 0; have rc1_w3 : w3.cell? ⟨w.heap.size, 1, none⟩ = some (.string ⟨#[]⟩) := (blk_cell hL3.out.res 1).trans rfl; have rf1_w3 := blk_frozen hL3.out.res 1; have rc2_w3 : w3.cell? ⟨w.heap.size, 2, none⟩ = some (.slice none 0 0) := (blk_cell hL3.out.res 2).trans rfl; have rf2_w3 := blk_frozen hL3.out.res 2; have rc3_w3 : w3.cell? ⟨w.heap.size, 3, none⟩ = some (.string ⟨#[]⟩) := (blk_cell hL3.out.res 3).trans rfl; have rf3_w3 := blk_frozen hL3.out.res 3)))
  refine bodyPost_ret (results_ct rfl _ _ w.heap.size 36 #[.string a, .string b, .slice Av l.length cv, .string B] (0, 0) _ rfl (blk_put (blk_put (blk_put (blk_put hL3.out.res 0 _ rfl) 1 _ rfl) 2 _ rfl) 3 _ rfl) Tryz.underlying36 rfl zb15) rfl ?_
  have b0 := hL3.out.res
  have b1 := blk_put b0 0 (.string a) rfl
  have b2 := blk_put b1 1 (.string b) rfl
  have b3 := blk_put b2 2 (.slice Av l.length cv) rfl
  exact ⟨a, b, c, _, hws.out, rfl, Kd.R_set (Kd.R_set (Kd.R_set (Kd.R_set hR3.out b0 zb20 0 _) b1 zb20 1 _) b2 zb20 2 _) b3 zb20 3 _, (((hb3.out.setCell (p := ⟨w.heap.size, 0, none⟩) (Nat.le_refl _) _).setCell (p := ⟨w.heap.size, 1, none⟩) (Nat.le_refl _) _).setCell (p := ⟨w.heap.size, 2, none⟩) (Nat.le_refl _) _).setCell (p := ⟨w.heap.size, 3, none⟩) (Nat.le_refl _) _⟩
end Go.Proofs.YteonhdfjfjpbjaaGreatDoor.O
/- SpQ -/
namespace Go.Proofs.YteonhdfjfjpbjaaGreatDoor.Mn
open Go.RowKit Go.Proofs.YteonhdfjfjpbjaaGreatDoorW.PrintWords Go.Proofs.YteonhdfjfjpbjaaGreatDoorW.PrintLast Go.Proofs.YteonhdfjfjpbjaaGreatDoor.O
set_option linter.unusedVariables false
set_option linter.unusedSimpArgs false
abbrev L := List UInt8
def cut (c : UInt8) : L → List L
  | [] => [[]]
  | x :: r => if x = c then [] :: cut c r else match cut c r with
    | [] => [[x]]
    | y :: z => (x :: y) :: z
theorem cut_ne (c : UInt8) (l : L) : cut c l ≠ [] := by
  cases l with
  | nil => simp [cut]
  | cons x r =>
    unfold cut
    split
    · simp
    · split <;> simp
theorem cut_eq (c : UInt8) (r : L) : cut c (c :: r) = [] :: cut c r := by simp [cut]
theorem cut_other (c x : UInt8) (r : L) (h : x ≠ c) : ∃ y z, cut c r = y :: z ∧ cut c (x :: r) = (x :: y) :: z := by
  cases e : cut c r with
  | nil => exact absurd e (cut_ne c r)
  | cons y z => exact ⟨y, z, rfl, by simp [cut, h, e]⟩
theorem cut_none (c : UInt8) : ∀ (a : L), c ∉ a → cut c a = [a]
  | [], _ => rfl
  | x :: a, h => by
    obtain ⟨y, z, e1, e2⟩ := cut_other c x a (fun e => h (by simp [e]))
    rw [cut_none c a (fun e => h (by simp [e]))] at e1
    obtain ⟨rfl, rfl⟩ := List.cons.inj e1
    exact e2
theorem cut_app (c : UInt8) (b : L) : ∀ (a : L), c ∉ a → cut c (a ++ c :: b) = a :: cut c b
  | [], _ => cut_eq c b
  | x :: a, h => by
    obtain ⟨y, z, e1, e2⟩ := cut_other c x (a ++ c :: b) (fun e => h (by simp [e]))
    rw [cut_app c b a (fun e => h (by simp [e]))] at e1
    obtain ⟨rfl, rfl⟩ := List.cons.inj e1
    exact e2
theorem cut_part (c : UInt8) : ∀ (a : L), ∀ p ∈ cut c a, p.length ≤ a.length
  | [] => by simp [cut]
  | x :: a => by
    have ih := cut_part c a
    intro p hp
    by_cases h : x = c
    · subst h
      rw [cut_eq] at hp
      rcases List.mem_cons.1 hp with rfl | hp
      · simp
      · have := ih p hp
        simp only [List.length_cons]
        omega
    · obtain ⟨y, z, e1, e2⟩ := cut_other c x a h
      rw [e2] at hp
      rw [e1] at ih
      rcases List.mem_cons.1 hp with rfl | hp
      · have := ih y (by simp)
        simp only [List.length_cons]
        omega
      · have := ih p (by simp [hp])
        simp only [List.length_cons]
        omega
theorem index_eq (c : UInt8) (r : L) : Lib.index (c :: r) [c] = 0 := by simp [Lib.index, List.isPrefixOf]
theorem index_other (c x : UInt8) (r : L) (h : x ≠ c) : Lib.index (x :: r) [c] = if Lib.index r [c] == -1 then -1 else Lib.index r [c] + 1 := by
  have h' : (c == x) = false := by simpa using fun e : c = x => h e.symm
  simp [Lib.index, List.isPrefixOf, h']
theorem splitK_eq (c : UInt8) (k : Nat) (r : L) : Lib.splitK [c] 0 (k + 1) (c :: r) = [] :: Lib.splitK [c] 0 k r := by
  simp [Lib.splitK, index_eq]
theorem splitK_other (c x : UInt8) (h : x ≠ c) (k : Nat) (r : L) : ∃ y z, Lib.splitK [c] 0 k r = y :: z ∧ Lib.splitK [c] 0 k (x :: r) = (x :: y) :: z := by
  cases k with
  | zero => exact ⟨r, [], rfl, rfl⟩
  | succ k =>
    have e := index_other c x r h
    by_cases hi : Lib.index r [c] = -1
    · rw [hi] at e
      refine ⟨r, [], ?_, ?_⟩ <;> simp [Lib.splitK, hi, e]
    · have hb : (Lib.index r [c] == -1) = false := by simpa using hi
      rw [hb, if_neg (by decide)] at e
      have hge := Lib.index_ge r [c]
      have hn : (Lib.index r [c] + 1 == -1) = false := by simp; omega
      have ht : (Lib.index r [c] + 1).toNat = (Lib.index r [c]).toNat + 1 := by omega
      refine ⟨_, _, by rw [Lib.splitK, hb, if_neg (by decide)], ?_⟩
      rw [Lib.splitK, e, hn, if_neg (by decide), ht]
      simp
theorem splitK_cut (c : UInt8) : ∀ s : L, Lib.splitK [c] 0 (s.count c) s = cut c s
  | [] => rfl
  | x :: r => by
    have ih := splitK_cut c r
    by_cases h : x = c
    · subst h
      rw [List.count_cons_self, splitK_eq, ih, cut_eq]
    · rw [List.count_cons_of_ne h]
      obtain ⟨y, z, e1, e2⟩ := splitK_other c x h (r.count c) r
      obtain ⟨y', z', e3, e4⟩ := cut_other c x r h
      rw [e2, e4]
      rw [ih, e3] at e1
      obtain ⟨rfl, rfl⟩ := List.cons.inj e1
      rfl
theorem split_cut (c : UInt8) (s : ByteArray) : (Lib.splitB ⟨#[c]⟩ 0 (Lib.countB s ⟨#[c]⟩) s).map (·.data.toList) = cut c s.data.toList := by
  rw [Lib.splitB_data]
  have e : Lib.countB s ⟨#[c]⟩ = s.data.toList.count c := Lib.count_one c s.data.toList
  rw [e]
  exact splitK_cut c _
theorem dg_lt (u : Nat) (h : u < 10) : (UInt8.ofNat (48 + u)).toNat = 48 + u := by
  rw [UInt8.toNat_ofNat']; omega
theorem dec_mem (u : Nat) : ∀ c ∈ Lib.decDigits u, 48 ≤ c.toNat ∧ c.toNat ≤ 57 := by
  induction u using Nat.strongRecOn with
  | _ u ih =>
    intro c hc
    rw [Lib.decDigits] at hc
    split at hc
    · rename_i h
      obtain rfl := List.mem_singleton.1 hc
      rw [dg_lt u h]; omega
    · rename_i h
      rcases List.mem_append.1 hc with hc | hc
      · exact ih (u / 10) (by omega) c hc
      · obtain rfl := List.mem_singleton.1 hc
        rw [dg_lt _ (by omega)]; omega
theorem dec_ne (u : Nat) : Lib.decDigits u ≠ [] := by
  rw [Lib.decDigits]
  split <;> simp
theorem dec_len (k : Nat) : ∀ u, u < 10 ^ (k + 1) → (Lib.decDigits u).length ≤ k + 1 := by
  induction k with
  | zero =>
    intro u h
    rw [Lib.decDigits, dif_pos (by omega)]
    simp
  | succ k ih =>
    intro u h
    rw [Lib.decDigits]
    split
    · simp
    · have := ih (u / 10) (by rw [Nat.pow_succ] at h; omega)
      simp only [List.length_append, List.length_singleton]
      omega
/-- The reader of numerals that the document has. -/
def dec (n : Int) : L := Lib.decDigits n.toNat
end Go.Proofs.YteonhdfjfjpbjaaGreatDoor.Mn
/- SpR -/
namespace Go.Proofs.YteonhdfjfjpbjaaGreatDoor.Sp
open Go.RowKit Go.Proofs.YteonhdfjfjpbjaaGreatDoorW.PrintWords Go.Proofs.YteonhdfjfjpbjaaGreatDoorW.PrintLast Go.Proofs.YteonhdfjfjpbjaaGreatDoor.O Go.Proofs.YteonhdfjfjpbjaaGreatDoor.P
set_option linter.unusedVariables false
set_option linter.unusedSimpArgs false
def vals (l : List (L × L)) (n : L) : List L := (l.filter fun p => low p.1 == low n).map (·.2)
def get (l : List (L × L)) (n : L) : L × Int := (Lib.join (vals l n) [44, 32], ((vals l n).length : Int))
def digB (c : UInt8) : Bool := decide (48 ≤ c.toNat) && decide (c.toNat ≤ 57)
def numN : Nat → L → Nat
  | n, [] => n
  | n, c :: r => numN (n * 10 + (c.toNat - 48)) r
def sizeS (a : L) : Option Nat := if a = [] ∨ 9 < a.length ∨ a.all digB = false then none else some (numN 0 a)
theorem numN_lt (a : L) : ∀ (n : Nat), (∀ c ∈ a, digB c = true) → numN n a < (n + 1) * 10 ^ a.length := by
  induction a with
  | nil => intro n _; rw [List.length_nil, Nat.pow_zero, Nat.mul_one]; exact Nat.lt_succ_self n
  | cons c r ih =>
    intro n h
    have hc := h c List.mem_cons_self
    unfold digB at hc
    simp only [Bool.and_eq_true, decide_eq_true_eq] at hc
    have := ih (n * 10 + (c.toNat - 48)) (fun x hx => h x (List.mem_cons_of_mem _ hx))
    show numN (n * 10 + (c.toNat - 48)) r < _
    refine Nat.lt_of_lt_of_le this ?_
    rw [List.length_cons, Nat.pow_succ, Nat.mul_comm (10 ^ r.length) 10, ← Nat.mul_assoc]
    generalize 10 ^ r.length = z
    exact Nat.mul_le_mul_right _ (by omega)
theorem pu_num (a : L) : ∀ (n : Nat), (∀ c ∈ a, digB c = true) → (n + 1) * 10 ^ a.length ≤ 10000000000 → Lib.parseUint10 n a = .ok (numN n a) := by
  induction a with
  | nil => intro n _ _; rfl
  | cons c r ih =>
    intro n h hb
    have hc := h c List.mem_cons_self
    unfold digB at hc
    simp only [Bool.and_eq_true, decide_eq_true_eq] at hc
    rw [List.length_cons, Nat.pow_succ, Nat.mul_comm (10 ^ r.length) 10, ← Nat.mul_assoc] at hb
    have h1 : 1 ≤ 10 ^ r.length := Nat.pow_pos (by omega)
    have hr := ih (n * 10 + (c.toNat - 48)) (fun x hx => h x (List.mem_cons_of_mem _ hx))
    generalize 10 ^ r.length = z at *
    have h2 : (n + 1) * 10 ≤ 10000000000 := Nat.le_trans (Nat.le_mul_of_pos_right _ h1) hb
    rw [Lib.parseUint10, if_pos hc, if_neg (by omega), if_neg (by omega)]
    exact hr (Nat.le_trans (Nat.mul_le_mul_right _ (by omega)) hb)
theorem dw_nil (p : UInt8 → Bool) (l : L) : l.dropWhile p = [] ↔ ∀ x ∈ l, p x = true := by
  induction l with
  | nil => simp
  | cons c r ih =>
    by_cases hc : p c = true
    · rw [List.dropWhile_cons_of_pos hc, ih]
      simp [hc]
    · rw [List.dropWhile_cons_of_neg hc]
      simp [hc]
theorem dw_head (p : UInt8 → Bool) (l : L) : ∀ c r, l.dropWhile p = c :: r → p c = false := by
  induction l with
  | nil => intro c r h; simp at h
  | cons d q ih =>
    intro c r h
    by_cases hd : p d = true
    · rw [List.dropWhile_cons_of_pos hd] at h
      exact ih c r h
    · rw [List.dropWhile_cons_of_neg hd] at h
      obtain ⟨rfl, _⟩ := List.cons.inj h
      simpa using hd
theorem atoi_num (a : L) (hne : a ≠ []) (h : ∀ c ∈ a, digB c = true) (hl : a.length ≤ 9) : atoiF a = ((numN 0 a : Int), none) := by
  obtain ⟨c, r, rfl⟩ := List.exists_cons_of_ne_nil hne
  have hc := h c List.mem_cons_self
  unfold digB at hc
  simp only [Bool.and_eq_true, decide_eq_true_eq] at hc
  have hp : (0 + 1) * 10 ^ (c :: r).length ≤ 10000000000 := by
    rw [Nat.zero_add, Nat.one_mul]
    exact Nat.le_trans (Nat.pow_le_pow_right (by omega) hl) (by decide)
  have hu := pu_num (c :: r) 0 h hp
  have hlt := numN_lt (c :: r) 0 h
  have e : Lib.atoiAll (c :: r) = .ok (numN 0 (c :: r) : Int) := by
    have hm : Lib.parseMag (c :: r) = .ok (numN 0 (c :: r)) := by unfold Lib.parseMag; rw [if_neg (by simp), hu]
    rw [Lib.atoiAll_plain c r (by omega) (by omega), hm, Lib.signless, if_neg (by omega)]
  simp [atoiF, e]
theorem dig_all : ∀ a : Fin 256, ([48, 49, 50, 51, 52, 53, 54, 55, 56, 57] : L).contains (UInt8.ofNat a.val) = digB (UInt8.ofNat a.val) := by decide +kernel
theorem dig_eq : (([48, 49, 50, 51, 52, 53, 54, 55, 56, 57] : L).contains · : UInt8 → Bool) = digB := by
  funext c
  obtain ⟨a, rfl⟩ := u8_fin c
  exact dig_all a
theorem trim_dig (a : L) : Lib.trimS a [48, 49, 50, 51, 52, 53, 54, 55, 56, 57] = [] ↔ a.all digB = true := by
  unfold Lib.trimS Lib.trimLeftS Lib.trimRightS
  rw [dig_eq]
  constructor
  · intro h
    rw [dw_nil] at h
    cases hx : a.reverse.dropWhile digB with
    | nil =>
      rw [dw_nil] at hx
      exact List.all_eq_true.2 (fun x hm => hx x (List.mem_reverse.2 hm))
    | cons c r =>
      have h1 := dw_head digB _ c r hx
      have h2 := h c (List.mem_reverse.2 (by rw [hx]; exact List.mem_cons_self))
      rw [h1] at h2
      cases h2
  · intro h
    have : a.reverse.dropWhile digB = [] := (dw_nil _ _).2 (fun x hm => List.all_eq_true.1 h x (List.mem_reverse.1 hm))
    rw [this]
    rfl
def sizeE (n : Nat) (a : L) : Int := match sizeS a with
  | none => 190
  | some k => if 100000 < k then 2 else if k ≠ n then 190 else 0
theorem sizedE_eq (s a : ByteArray) : sizedE s a = sizeE s.size a.data.toList := by
  have ha : a.size = a.data.toList.length := Lib.size_eq a
  unfold sizedE sizeE sizeS
  rw [ha]
  generalize a.data.toList = l
  by_cases h0 : l = []
  · subst h0
    rfl
  · by_cases h9 : 9 < l.length
    · rw [if_pos (Or.inr (Or.inl h9))]
      rcases atoiF l with ⟨n, _ | q⟩
      · simp only [if_pos h9]
      · rfl
    · by_cases hd : l.all digB = true
      · rw [atoi_num l h0 (fun c hc => List.all_eq_true.1 hd c hc) (by omega), if_neg (by simp [h0, h9, hd])]
        simp only [if_neg h9]
        rw [if_neg (by rw [ne_eq, Classical.not_not]; exact (trim_dig l).2 hd)]
        by_cases h1 : 100000 < numN 0 l
        · rw [if_pos (by omega), if_pos h1]
        · rw [if_neg (by omega), if_neg h1]
          by_cases h2 : numN 0 l = s.size
          · rw [if_neg (by simp [h2]), if_neg (by simp [h2])]
          · rw [if_pos (by omega), if_pos h2]
      · rw [if_pos (Or.inr (Or.inr (by simpa using hd)))]
        rcases atoiF l with ⟨n, _ | q⟩
        · simp only [if_neg h9]
          rw [if_pos (fun e => hd ((trim_dig l).1 e))]
        · rfl
theorem rd_pairs (l : List (L × L)) (i : Nat) (p : L × L) (h : l[i]? = some p) : rd_T49 (pairsB l) (i : Int) = ⟨mk p.1, mk p.2⟩ := by
  unfold rd_T49 pairsB
  rw [Int.toNat_natCast, List.getD_eq_getElem?_getD, List.getElem?_map, h]
  rfl
theorem vals_cons (p : L × L) (r : List (L × L)) (n : L) : vals (p :: r) n = if low p.1 = low n then p.2 :: vals r n else vals r n := by
  unfold vals
  by_cases h : low p.1 = low n
  · rw [List.filter_cons_of_pos (by simp [h]), if_pos h]
    rfl
  · rw [List.filter_cons_of_neg (by simp [h]), if_neg h]
theorem get_l0 (l : List (L × L)) (n : L) (hn : n.length ≤ 1000000) (hl : l.length ≤ 1000000) (hp : ∀ p ∈ l, p.1.length ≤ 1000000) : ∀ (d k i : Nat) (acc : List L), i + d = l.length → d < k → acc.length ≤ i → (Lib.join (acc ++ vals (l.drop i) n) [44, 32]).length ≤ 140737488355328 →
    field_Get.l0 k (mk n) (acc.map mk) (pairsB l) (l.length : Int) (i : Int) = some (mk (Lib.join (acc ++ vals (l.drop i) n) [44, 32]), ((acc ++ vals (l.drop i) n).length : Int)) := by
  intro d
  induction d with
  | zero =>
    intro k i acc hi hk ha hj
    obtain ⟨k, rfl⟩ : ∃ k', k = k' + 1 := ⟨k - 1, by omega⟩
    rw [List.drop_eq_nil_of_le (by omega)] at hj ⊢
    rw [show vals [] n = [] from rfl, List.append_nil] at hj ⊢
    have hm : (acc.map mk).map (·.data.toList) = acc := by rw [List.map_map]; conv => rhs; rw [← List.map_id acc]
                                                           exact List.map_congr_left (fun x _ => mk_data x)
    rw [field_Get.l0, if_neg (by omega), strings_Join.f]
    unfold joinB
    rw [hm, show (⟨#[44, 32]⟩ : ByteArray).data.toList = [44, 32] from rfl, if_pos ⟨by rw [List.length_map]; omega, hj⟩]
    simp only [Option.bind_some, List.length_map]
    rfl
  | succ d ih =>
    intro k i acc hi hk ha hj
    obtain ⟨k, rfl⟩ : ∃ k', k = k' + 1 := ⟨k - 1, by omega⟩
    have hlt : i < l.length := by omega
    have hw : wrap64 ((i : Int) + 1) = ((i + 1 : Nat) : Int) := by rw [wrap_id (by omega) (by omega)]; omega
    have hmem := hp l[i] (List.getElem_mem hlt)
    rw [List.drop_eq_getElem_cons hlt, vals_cons] at hj ⊢
    rw [field_Get.l0, if_pos (by omega), if_pos (by omega), if_pos (by rw [pairsB_len]; omega), rd_pairs l i l[i] (List.getElem?_eq_getElem hlt), lowF _ (by omega), Option.bind_some, lowF _ (by omega), Option.bind_some, tl_mk, tl_mk]
    by_cases h : low l[i].1 = low n
    · rw [if_pos h] at hj ⊢
      rw [if_pos h, if_pos (by rw [List.length_map]; omega), hw]
      have := ih k (i + 1) (acc ++ [l[i].2]) (by omega) (by omega) (by rw [List.length_append, List.length_singleton]; omega) (by rw [List.append_assoc]; exact hj)
      rw [List.map_append, List.append_assoc] at this
      exact this
    · rw [if_neg h] at hj ⊢
      rw [if_neg h, hw]
      exact ih k (i + 1) acc (by omega) (by omega) (by omega) hj
theorem getF (l : List (L × L)) (n : L) (k : Nat) (hn : n.length ≤ 1000000) (hl : l.length ≤ 1000000) (hp : ∀ p ∈ l, p.1.length ≤ 1000000) (hj : (get l n).1.length ≤ 140737488355328) (hk : l.length < k) : field_Get.f k (pairsB l) (mk n) = some (mk (get l n).1, (get l n).2) := by
  have := get_l0 l n hn hl hp l.length k 0 [] (by omega) hk (by simp) (by simpa [get] using hj)
  unfold field_Get.f
  rw [pairsB_len]
  simpa [get] using this
end Go.Proofs.YteonhdfjfjpbjaaGreatDoor.Sp
/- Px19 -/
namespace Go.Proofs.YteonhdfjfjpbjaaGreatDoor.P
open Go.Proofs.YteonhdfjfjpbjaaGreatDoor.B
open Go.RowKit Go.Proofs.YteonhdfjfjpbjaaGreatDoorW.PrintWords Go.Proofs.YteonhdfjfjpbjaaGreatDoorW.PrintLast Go.Proofs.YteonhdfjfjpbjaaGreatDoorW.PrintMore
attribute [local go_sem] str_leq str_gtr str_geq max2_int min2_int max_two min_two max_three min_three max_four min_four
set_option linter.unusedVariables false
set_option linter.unusedSimpArgs false
def broadsheetref07_Lower.l0 : Nat → ByteArray → List Int → Int → Option (ByteArray)
  | 0, _, _, _ => none
  | k + 1, x0, x3, x4 => if x4 < (x0.size : Int) then (if 0 ≤ x4 then (if (bt x0 x4) ≥ 65 then (if (bt x0 x4) ≤ 90 then (if x3.length < 140737488355328 then (broadsheetref07_Lower.l0 k x0 (x3 ++ [((bt x0 x4) + 32) % 256]) (wrap64 (x4 + 1))) else (none)) else (if x3.length < 140737488355328 then (broadsheetref07_Lower.l0 k x0 (x3 ++ [bt x0 x4]) (wrap64 (x4 + 1))) else (none))) else (if x3.length < 140737488355328 then (broadsheetref07_Lower.l0 k x0 (x3 ++ [bt x0 x4]) (wrap64 (x4 + 1))) else (none))) else (none)) else (some (strOfNums x3))
def broadsheetref07_Lower.f (k : Nat) (a0 : ByteArray) : Option (ByteArray) := broadsheetref07_Lower.l0 k a0 ([] : List Int) 0
set_option maxHeartbeats 8000000 in
set_option maxRecDepth 100000 in
theorem broadsheetref07_Lower.calls (k : Nat) (a0 : ByteArray) (r : ByteArray) (w : World) (h : broadsheetref07_Lower.f k a0 = some r) :
  Calls Tryz.prog 53 #[.string a0] w fun e w' => e = .returned (.string r) ∧ Below w.heap.size w w' := by
 have HB := Aside0.mk (Below.refl w.heap.size w)
 have H : (broadsheetref07_Lower.l0 k a0 ([] : List Int) 0) = some r := h
 clear h
 have H' := Aside0.mk H
 clear H
 go_enter Tryz.func53, Tryz.ntmps53
 go_wp2
 first | go_loopg [3, 4] k (fun kq v3 v4 w' => ∃ (x3_1 : List Int) (x4_1 : Int), v4 = .int .i64 x4_1 ∧ Aside0 (broadsheetref07_Lower.l0 kq a0 x3_1 x4_1 = some r) ∧ Aside0 (kq ≤ k) ∧ Aside0 (Kd.R (Kd.int .u8) 5 w' w.heap.size (fun _ => True) v3 x3_1) ∧ Aside0 (Below w.heap.size w w')) | (go_simp; go_loopg [3, 4] k (fun kq v3 v4 w' => ∃ (x3_1 : List Int) (x4_1 : Int), v4 = .int .i64 x4_1 ∧ Aside0 (broadsheetref07_Lower.l0 kq a0 x3_1 x4_1 = some r) ∧ Aside0 (kq ≤ k) ∧ Aside0 (Kd.R (Kd.int .u8) 5 w' w.heap.size (fun _ => True) v3 x3_1) ∧ Aside0 (Below w.heap.size w w')))
 case atStart => exact ⟨(([] : List Int)), (0), zb6, H', ⟨Nat.le_refl _⟩, ⟨by first | exact Kd.R_nil _ _ _ _ _ | exact Kd.N_nil _ _ _ _ _ | exact Kd.V_nil _ _ _ _ _ | exact Kd.Q_nil _ _ _ _ _ | exact Kd.S_nil _ _ _ _ _⟩, ⟨by repeat (first | (with_reducible first | exact HB.out | apply below_alloc | apply pw_below_drewN | apply below_drew1) | exact HB.out)⟩⟩
 case round =>
  clear H'
  obtain ⟨x3_1, x4_1, rfl, HA, HK1, HO_3, HB⟩ := hrel
  cases gk with
  | zero => exact absurd HA.out (by simp [broadsheetref07_Lower.l0])
  | succ k1 =>
   have H := HA.out
   clear HA
   simp only [broadsheetref07_Lower.l0] at H
   by_cases c2 : x4_1 < (a0.size : Int)
   ·rw [if_pos c2] at H
    have c2b0 : decide (x4_1 < (a0.size : Int)) = true := decide_eq_true c2
    clear c2
    by_cases c3 : 0 ≤ x4_1
    ·rw [if_pos c3] at H
     have c3b0 : decide (0 ≤ x4_1) = true := decide_eq_true c3
     clear c3
     by_cases c5 : (bt a0 x4_1) ≥ 65
     ·rw [if_pos c5] at H
      have c5b0 : decide (65 ≤ (bt a0 x4_1)) = true := decide_eq_true c5
      clear c5
      by_cases c6 : (bt a0 x4_1) ≤ 90
      ·rw [if_pos c6] at H
       have c6b0 : decide ((bt a0 x4_1) ≤ 90) = true := decide_eq_true c6
       clear c6
       by_cases c7 : x3_1.length < 140737488355328
       ·rw [if_pos c7] at H
        have LMc7 := Aside0.mk c7
        clear c7
        obtain ⟨y221, hy221⟩ : ∃ y_ : List Int, y_ = (x3_1 ++ [((bt a0 x4_1) + 32) % 256]) := ⟨_, rfl⟩
        replace H : (broadsheetref07_Lower.l0 k1 a0 y221 (wrap64 (x4_1 + 1))) = some r := by first | (rw [hy221]; with_reducible exact H) | (have H2_ := (Option.bind_some _ _).symm.trans H; rw [hy221]; with_reducible exact H2_) | (have H2_ := (Option.bind_some _ _).symm.trans H; with_reducible exact H2_) | with_reducible exact H | (rw [hy221]; exact H) | exact H
        have Ny221 := Aside0.mk hy221
        clear hy221
        have H' := Aside0.mk H
        clear H
        have p4 : 0 ≤ (x4_1 : Int) := of_decide_eq_true zb2
        have q4 : x4_1 < (a0.size : Int) := of_decide_eq_true zb2
        have hx4 := bt_at a0 x4_1
        replace p4 := eq_true p4
        replace q4 := eq_true q4
        go_wp2_with (first | ((with_reducible refine gate_builtin (b := .append) (xs := #[.tmp 23, .tmp 25]) rfl ?_); at_builtin; refine Kd.R_append (Kd.int .u8) (w0 := w) w.heap.size rfl (.tmp 23) (.tmp 25) 23 5 (.int .u8 0) 1 rfl Tryz.underlying23 info5 rfl zb20 zb17 u3 x3_1 (((bt a0 x4_1) + 32) % 256) [.int .u8 (((bt a0 x4_1) + 32) % 256)] (fun _ => True) (fun _ => False) rfl rfl ?aP (fun _ hk => hk.elim) ?aF ?aO ?aB ?aS ?aL ?_; (case aP => exact rfl); (case aB => exact zb0); (case aF => exact (fun _ _ => trivial)); (case aO => exact (by (with_reducible repeat (first | apply Kd.R_alloc | apply Kd.R_drewN | apply Kd.R_drew)); exact HO_3.out)); (case aS => exact (below_size zb0)); (case aL => have := LMc7.out; omega); intro v222 w8 ho hb hg hat; rw [← Ny221.out] at ho; have n0_ := Aside0.mk (hb); have n1_ := Aside0.mk (ho); clear HB; clear HO_3; have HB := n0_; have HO223 := n1_; clear n0_ n1_; clear ho hb hg hat))
        go_roundg k1
        case measure => have := HK1.out; omega
        case rel => exact ⟨(y221), (wrap64 (x4_1 + 1)), zb6, H', ⟨by have := HK1.out; omega⟩, ⟨by (with_reducible repeat (first | apply Kd.R_alloc | apply Kd.R_drewN | apply Kd.R_drew)); exact HO223.out⟩, ⟨by repeat (first | (with_reducible first | exact HB.out | apply below_alloc | apply pw_below_drewN | apply below_drew1) | exact HB.out)⟩⟩
       ·rw [if_neg c7] at H
        exact absurd H zb25
      ·rw [if_neg c6] at H
       have c6b0 : decide ((bt a0 x4_1) ≤ 90) = false := decide_eq_false c6
       clear c6
       by_cases c9 : x3_1.length < 140737488355328
       ·rw [if_pos c9] at H
        have LMc9 := Aside0.mk c9
        clear c9
        obtain ⟨y224, hy224⟩ : ∃ y_ : List Int, y_ = (x3_1 ++ [bt a0 x4_1]) := ⟨_, rfl⟩
        replace H : (broadsheetref07_Lower.l0 k1 a0 y224 (wrap64 (x4_1 + 1))) = some r := by first | (rw [hy224]; with_reducible exact H) | (have H2_ := (Option.bind_some _ _).symm.trans H; rw [hy224]; with_reducible exact H2_) | (have H2_ := (Option.bind_some _ _).symm.trans H; with_reducible exact H2_) | with_reducible exact H | (rw [hy224]; exact H) | exact H
        have Ny224 := Aside0.mk hy224
        clear hy224
        have H' := Aside0.mk H
        clear H
        have p4 : 0 ≤ (x4_1 : Int) := of_decide_eq_true zb2
        have q4 : x4_1 < (a0.size : Int) := of_decide_eq_true zb2
        have hx4 := bt_at a0 x4_1
        replace p4 := eq_true p4
        replace q4 := eq_true q4
        go_wp2_with (first | ((with_reducible refine gate_builtin (b := .append) (xs := #[.tmp 23, .tmp 25]) rfl ?_); at_builtin; refine Kd.R_append (Kd.int .u8) (w0 := w) w.heap.size rfl (.tmp 23) (.tmp 25) 23 5 (.int .u8 0) 1 rfl Tryz.underlying23 info5 rfl zb20 zb17 u3 x3_1 (bt a0 x4_1) [.int .u8 (bt a0 x4_1)] (fun _ => True) (fun _ => False) rfl rfl ?aP (fun _ hk => hk.elim) ?aF ?aO ?aB ?aS ?aL ?_; (case aP => exact rfl); (case aB => exact zb0); (case aF => exact (fun _ _ => trivial)); (case aO => exact (by (with_reducible repeat (first | apply Kd.R_alloc | apply Kd.R_drewN | apply Kd.R_drew)); exact HO_3.out)); (case aS => exact (below_size zb0)); (case aL => have := LMc9.out; omega); intro v225 w10 ho hb hg hat; rw [← Ny224.out] at ho; have n0_ := Aside0.mk (hb); have n1_ := Aside0.mk (ho); clear HB; clear HO_3; have HB := n0_; have HO226 := n1_; clear n0_ n1_; clear ho hb hg hat))
        go_roundg k1
        case measure => have := HK1.out; omega
        case rel => exact ⟨(y224), (wrap64 (x4_1 + 1)), zb6, H', ⟨by have := HK1.out; omega⟩, ⟨by (with_reducible repeat (first | apply Kd.R_alloc | apply Kd.R_drewN | apply Kd.R_drew)); exact HO226.out⟩, ⟨by repeat (first | (with_reducible first | exact HB.out | apply below_alloc | apply pw_below_drewN | apply below_drew1) | exact HB.out)⟩⟩
       ·rw [if_neg c9] at H
        exact absurd H zb25
     ·rw [if_neg c5] at H
      have c5b0 : decide (65 ≤ (bt a0 x4_1)) = false := decide_eq_false c5
      clear c5
      by_cases c11 : x3_1.length < 140737488355328
      ·rw [if_pos c11] at H
       have LMc11 := Aside0.mk c11
       clear c11
       obtain ⟨y227, hy227⟩ : ∃ y_ : List Int, y_ = (x3_1 ++ [bt a0 x4_1]) := ⟨_, rfl⟩
       replace H : (broadsheetref07_Lower.l0 k1 a0 y227 (wrap64 (x4_1 + 1))) = some r := by first | (rw [hy227]; with_reducible exact H) | (have H2_ := (Option.bind_some _ _).symm.trans H; rw [hy227]; with_reducible exact H2_) | (have H2_ := (Option.bind_some _ _).symm.trans H; with_reducible exact H2_) | with_reducible exact H | (rw [hy227]; exact H) | exact H
       have Ny227 := Aside0.mk hy227
       clear hy227
       have H' := Aside0.mk H
       clear H
       have p4 : 0 ≤ (x4_1 : Int) := of_decide_eq_true zb2
       have q4 : x4_1 < (a0.size : Int) := of_decide_eq_true zb2
       have hx4 := bt_at a0 x4_1
       replace p4 := eq_true p4
       replace q4 := eq_true q4
       go_wp2_with (first | ((with_reducible refine gate_builtin (b := .append) (xs := #[.tmp 23, .tmp 25]) rfl ?_); at_builtin; refine Kd.R_append (Kd.int .u8) (w0 := w) w.heap.size rfl (.tmp 23) (.tmp 25) 23 5 (.int .u8 0) 1 rfl Tryz.underlying23 info5 rfl zb20 zb17 u3 x3_1 (bt a0 x4_1) [.int .u8 (bt a0 x4_1)] (fun _ => True) (fun _ => False) rfl rfl ?aP (fun _ hk => hk.elim) ?aF ?aO ?aB ?aS ?aL ?_; (case aP => exact rfl); (case aB => exact zb0); (case aF => exact (fun _ _ => trivial)); (case aO => exact (by (with_reducible repeat (first | apply Kd.R_alloc | apply Kd.R_drewN | apply Kd.R_drew)); exact HO_3.out)); (case aS => exact (below_size zb0)); (case aL => have := LMc11.out; omega); intro v228 w12 ho hb hg hat; rw [← Ny227.out] at ho; have n0_ := Aside0.mk (hb); have n1_ := Aside0.mk (ho); clear HB; clear HO_3; have HB := n0_; have HO229 := n1_; clear n0_ n1_; clear ho hb hg hat))
       go_roundg k1
       case measure => have := HK1.out; omega
       case rel => exact ⟨(y227), (wrap64 (x4_1 + 1)), zb6, H', ⟨by have := HK1.out; omega⟩, ⟨by (with_reducible repeat (first | apply Kd.R_alloc | apply Kd.R_drewN | apply Kd.R_drew)); exact HO229.out⟩, ⟨by repeat (first | (with_reducible first | exact HB.out | apply below_alloc | apply pw_below_drewN | apply below_drew1) | exact HB.out)⟩⟩
      ·rw [if_neg c11] at H
       exact absurd H zb25
    ·rw [if_neg c3] at H
     exact absurd H zb25
   ·rw [if_neg c2] at H
    have c2b0 : decide (x4_1 < (a0.size : Int)) = false := decide_eq_false c2
    clear c2
    obtain rfl := Option.some.inj H
    have hcv13 := own_string (P := Tryz.prog) Tryz.underlying23 Tryz.underlying5 Tryz.underlying9 (Kd.own_of_R HO_3.out)
    have hcvq13 := fun n_ => own_string (P := Tryz.prog) Tryz.underlying23 Tryz.underlying5 Tryz.underlying9 (Kd.own_of_R (Kd.R_drewN HO_3.out n_))
    go_wp2
    go_ret
    exact ⟨zb4, zb0⟩
end Go.Proofs.YteonhdfjfjpbjaaGreatDoor.P
