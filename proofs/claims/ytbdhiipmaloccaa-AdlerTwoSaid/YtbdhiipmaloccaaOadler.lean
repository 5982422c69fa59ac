import Derived.Test.YtbdhiipmaloccaaPx0
import Derived.Lib.Hide
namespace Go.Proofs.Ytbdhiipmaloccaa.O
open Go.RowKit Go.Proofs.YtbdhiipmaloccaaW.PrintWords Go.Proofs.YtbdhiipmaloccaaW.PrintLast Go.Proofs.YtbdhiipmaloccaaW.PrintMore
set_option linter.unusedVariables false
set_option linter.unusedSimpArgs false

/-- The two numbers of the first k bytes. -/
def adS (s : ByteArray) : Nat → Int × Int
  | 0 => (1, 0)
  | k + 1 => (((adS s k).1 + bt s k) % 65521, ((adS s k).2 + ((adS s k).1 + bt s k) % 65521) % 65521)
theorem adS_bd (s : ByteArray) (k : Nat) : 0 ≤ (adS s k).1 ∧ (adS s k).1 < 65521 ∧ 0 ≤ (adS s k).2 ∧ (adS s k).2 < 65521 := by
  cases k with
  | zero => simp [adS]
  | succ k => simp only [adS]; omega
def adler_Sum.f (a0 : ByteArray) : Option Int := if a0.size ≤ 9223372036854775807 then some ((adS a0 a0.size).2 * 65536 + (adS a0 a0.size).1) else none
theorem ad_or (a b : Int) (ha : 0 ≤ a) (ha' : a < 65521) (hb : 0 ≤ b) (hb' : b < 65521) : Go.bits .or .u32 (b * 65536 % 4294967296) a = b * 65536 + a := by
  rw [show b * 65536 % 4294967296 = b * 65536 from by omega]
  exact bits_join .u32 32 (by decide) (fun n h0 h1 => by rw [IntKind.wrap_u32]; omega) 16 _ _ (by omega) (by omega) (by omega) ha (by omega) (by omega)
theorem ad_or' (a b : Int) (ha : 0 ≤ a) (ha' : a < 65521) (hb : 0 ≤ b) (hb' : b < 65521) : Go.bits .or .u32 (b * 65536) a = b * 65536 + a := by
  have := ad_or a b ha ha' hb hb'
  rwa [show b * 65536 % 4294967296 = b * 65536 from by omega] at this
theorem ret_int {k : IntKind} {a b : Int} (h : a = b) : Ending.returned (.int k a) = .returned (.int k b) := by rw [h]
theorem below_bytes (w : World) (e : TypeId) (s : ByteArray) : Below w.heap.size w (Lib.bytesWorld w e s) :=
  ⟨rfl, rfl, rfl, by rw [Lib.bytesWorld_size]; omega, fun i hi => Lib.bytesWorld_at_old w e s i hi⟩
theorem bt_getD (s : ByteArray) (k : Nat) (h : k < s.size) : ((s.data.toList.getD k 0).toNat : Int) = bt s k := by
  unfold bt
  have h2 : k < s.data.size := h
  simp [h, List.getD_eq_getElem?_getD, h2]
  rfl

set_option maxHeartbeats 1000000 in
theorem adler_Sum.calls (a0 : ByteArray) (r : Int) (w : World) (h : adler_Sum.f a0 = some r) :
    Calls Try.prog 8 #[.string a0] w fun e w' => e = .returned (.int .i64 r) ∧ Below w.heap.size w w' := by
  unfold adler_Sum.f at h
  split at h
  case isFalse => exact absurd h (by simp)
  rename_i hsz
  obtain rfl := Option.some.inj h
  clear h
  have hconv := Lib.run_convert_string_bytes (P := Try.prog) w 9 25 5 a0 Try.underlying9 Try.underlying25 Try.underlying5
  have hb := Lib.hid (below_bytes w 5 a0)
  have hcell := Lib.hid (fun j hj => Lib.bytesWorld_cell w 5 a0 j hj)
  generalize Lib.bytesWorld w 5 a0 = w1 at *
  generalize grownCap w a0.size 0 5 = cap at *
  go_enter Try.func8, Try.ntmps8
  go_wp2
  go_loop [3, 4, 10] (fun a b i => ∃ k : Nat, k ≤ a0.size ∧ i = .int .i64 k ∧ a = .int .u32 (adS a0 k).1 ∧ b = .int .u32 (adS a0 k).2) (fun _ _ i => a0.size - (intOf i).toNat)
  case atStart => exact ⟨0, Nat.zero_le _, rfl, rfl, rfl⟩
  case round =>
    obtain ⟨k, hk, rfl, rfl, rfl⟩ := hrel
    obtain ⟨h1, h2, h3, h4⟩ := adS_bd a0 k
    by_cases hlt : k < a0.size
    · have hc : w1.cell? ⟨w.heap.size, k, none⟩ = some (.int .u8 (bt a0 k)) := by rw [hcell.out k hlt, bt_getD a0 k hlt]
      obtain ⟨q1, q2⟩ := bt_range a0 k
      have HS : Hid (adS a0 (k + 1) = (((adS a0 k).1 + bt a0 k) % 65521, ((adS a0 k).2 + ((adS a0 k).1 + bt a0 k) % 65521) % 65521)) := Lib.hid rfl
      generalize bt a0 k = c at *
      generalize (adS a0 k).1 = p at *
      generalize (adS a0 k).2 = q at *
      go_wp2
      go_round
      case rel => exact ⟨k + 1, by omega, by go_num, by rw [HS.out], by rw [HS.out]⟩
      case measure => simp [intOf]; omega
    · obtain rfl : k = a0.size := by omega
      have HO := Lib.hid (ad_or _ _ h1 h2 h3 h4)
      have HO' := Lib.hid (ad_or' _ _ h1 h2 h3 h4)
      have HW := Lib.hid (show wrap64 ((adS a0 a0.size).2 * 65536 + (adS a0 a0.size).1) = (adS a0 a0.size).2 * 65536 + (adS a0 a0.size).1 from by unfold wrap64; omega)
      go_wp2
      go_ret
      exact ⟨ret_int (by first | (simp only [HO.out, HW.out]; done) | (simp only [HO'.out, HW.out]; done) | (show wrap64 _ = _; first | rw [HO.out, HW.out] | rw [HO'.out, HW.out])), hb.out⟩
end Go.Proofs.Ytbdhiipmaloccaa.O
