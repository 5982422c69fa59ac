/- A text of which one byte is another one has another sum. -/
import Derived.Test.YtbdhiipmaloccaaPx4
import Derived.Test.YtbdhiipmaloccaaAdA
namespace Go.Proofs.Ytbdhiipmaloccaa.Pure
open Go.RowKit Go.Proofs.Ytbdhiipmaloccaa.P Go.Proofs.YtbdhiipmaloccaaW.PrintWords Go.Proofs.YtbdhiipmaloccaaW.PrintLast Go.Proofs.Ytbdhiipmaloccaa.O Go.Proofs.Ytbdhiipmaloccaa.Ad
theorem awakeO_ : broadsheetlaw02_awake.f = some true := by decide +kernel
theorem low14 (x : Int) : 0 ≤ Go.bits .and .i64 x 16383 ∧ Go.bits .and .i64 x 16383 < 16384 := by
  unfold Go.bits
  simp only
  have h1 : (BitVec.ofInt IntKind.i64.bits x &&& BitVec.ofInt IntKind.i64.bits 16383).toNat ≤ 16383 := by
    rw [BitVec.toNat_and]
    exact Nat.and_le_right
  rw [IntKind.wrap_i64]
  omega
theorem xor_ne (c d : Int) (hc : 0 ≤ c) (hc' : c ≤ 255) (hd : 0 < d) (hd' : d ≤ 255) : Go.bits .xor .u8 c d ≠ c ∧ 0 ≤ Go.bits .xor .u8 c d ∧ Go.bits .xor .u8 c d ≤ 255 := by
  obtain ⟨a, rfl⟩ := Int.eq_ofNat_of_zero_le hc
  obtain ⟨b, rfl⟩ := Int.eq_ofNat_of_zero_le (Int.le_of_lt hd)
  have hb : (b : Nat) ≠ 0 := by omega
  have ha : a < 256 := by omega
  have hb2 : b < 256 := by omega
  have e : Go.bits .xor .u8 (a : Int) (b : Int) = ((a ^^^ b : Nat) : Int) := by
    have hx : a ^^^ b < 2 ^ 8 := Nat.xor_lt_two_pow (by omega) (by omega)
    unfold Go.bits
    simp only [BitVec.ofInt_natCast, BitVec.toNat_xor, BitVec.toNat_ofNat]
    rw [show a % 2 ^ IntKind.u8.bits = a from Nat.mod_eq_of_lt ha, show b % 2 ^ IntKind.u8.bits = b from Nat.mod_eq_of_lt hb2, IntKind.wrap_u8]
    omega
  rw [e]
  have hx : a ^^^ b < 2 ^ 8 := Nat.xor_lt_two_pow (by omega) (by omega)
  refine ⟨fun h => hb ?_, by omega, by omega⟩
  have h' : a ^^^ b = a := by omega
  have := congrArg (fun z => a ^^^ z) h'
  simpa [← Nat.xor_assoc] using this
theorem one_byte (c : Int) (h0 : 0 ≤ c) (h1 : c ≤ 255) : (strOfNums [c]).size = 1 ∧ bt (strOfNums [c]) 0 = c := by
  obtain ⟨a, rfl⟩ := Int.eq_ofNat_of_zero_le h0
  have key : ∀ a : Fin 256, (strOfNums [(a.val : Int)]).size = 1 ∧ bt (strOfNums [(a.val : Int)]) 0 = (a.val : Int) := by decide +kernel
  exact key ⟨a, by omega⟩
theorem AdlerOne : broadsheetlaw02_AdlerOne.Pure := by
  intro s x d hs hx hd
  have bd := wf_u8 hd
  refine ⟨1, ?_⟩
  unfold broadsheetlaw02_AdlerOne.f
  rw [awakeO_]
  simp only [Option.bind_some, if_true, broadsheetlaw02_AdlerOne.j0]
  by_cases h : s.toList = []
  · rw [if_pos h]
  rw [if_neg h]
  by_cases h1 : (s.size : Int) > 10000
  · rw [if_pos h1]
  rw [if_neg h1]
  by_cases h2 : d = 0
  · simp [h2]
  have e2 : (d == 0) = false := by simpa using h2
  rw [e2, if_neg (by decide)]
  have hne : s.size ≠ 0 := by
    intro h0
    apply h
    have e : s = ByteArray.empty := ByteArray.size_eq_zero_iff.1 h0
    subst e
    exact ByteArray.toList_empty
  rw [if_neg (by omega)]
  obtain ⟨a0, a1⟩ := low14 x
  rw [tmod_pos a0]
  have m0 := Int.emod_nonneg (Go.bits .and .i64 x 16383) (b := (s.size : Int)) (by omega)
  have m1 := Int.emod_lt_of_pos (Go.bits .and .i64 x 16383) (b := (s.size : Int)) (by omega)
  generalize Go.bits .and .i64 x 16383 % (s.size : Int) = j at *
  obtain ⟨k, rfl⟩ := Int.eq_ofNat_of_zero_le m0
  have hr := bt_range s k
  obtain ⟨x0, x1, x2⟩ := xor_ne (bt s k) d hr.1 hr.2 (by omega) (by omega)
  obtain ⟨o1, o2⟩ := one_byte _ x1 x2
  generalize hc : Go.bits .xor .u8 (bt s k) d = c at *
  rw [if_pos m0, if_pos m1, if_pos (by decide)]
  simp only [List.nil_append]
  rw [wrap_id (x := (k : Int) + 1) (by omega) (by omega)]
  have z1 : (s.extract 0 (k : Int).toNat).size = k := by rw [ByteArray.size_extract]; omega
  have z2 : (s.extract ((k : Int) + 1).toNat s.size).size = s.size - (k + 1) := by rw [ByteArray.size_extract]; omega
  have z3 : (s.extract 0 (k : Int).toNat ++ strOfNums [c]).size = k + 1 := by rw [ByteArray.size_append]; omega
  rw [adler_some s (by omega)]
  simp only [Option.bind_some]
  rw [if_pos (by omega), if_pos (by omega), if_pos (by omega), if_pos (by omega), if_pos (by omega)]
  have z4 : (s.extract 0 (k : Int).toNat ++ strOfNums [c] ++ s.extract ((k : Int) + 1).toNat s.size).size = s.size := by rw [ByteArray.size_append]; omega
  rw [adler_some _ (by rw [z4]; omega), z4]
  simp only [Option.bind_some]
  have f1 : ∀ i : Nat, i < k → bt (s.extract 0 (k : Int).toNat ++ strOfNums [c] ++ s.extract ((k : Int) + 1).toNat s.size) i = bt s i := by
    intro i hi
    rw [bt_app_left _ _ i (by omega), bt_app_left _ _ i (by omega), bt_cut s 0 (k : Int).toNat i (by omega), Nat.zero_add]
  have f2 : bt (s.extract 0 (k : Int).toNat ++ strOfNums [c] ++ s.extract ((k : Int) + 1).toNat s.size) k = c := by
    rw [bt_app_left _ _ k (by omega)]
    have e := bt_app_right (s.extract 0 (k : Int).toNat) (strOfNums [c]) 0 (by omega)
    rw [z1, Nat.add_zero] at e
    rw [e]
    exact o2
  have f3 : ∀ i : Nat, k < i → bt (s.extract 0 (k : Int).toNat ++ strOfNums [c] ++ s.extract ((k : Int) + 1).toNat s.size) i = bt s i := by
    intro i hi
    by_cases hs2 : i < s.size
    · have e := bt_app_right (s.extract 0 (k : Int).toNat ++ strOfNums [c]) (s.extract ((k : Int) + 1).toNat s.size) (i - (k + 1)) (by omega)
      rw [z3, show k + 1 + (i - (k + 1)) = i from by omega] at e
      rw [e, bt_cut s _ _ _ (by omega), show ((k : Int) + 1).toNat + (i - (k + 1)) = i from by omega]
    · unfold bt
      rw [dif_neg (by rw [z4]; omega), dif_neg (by omega)]
  generalize s.extract 0 (k : Int).toNat ++ strOfNums [c] ++ s.extract ((k : Int) + 1).toNat s.size = t at *
  have key := adS_one t s k c (bt s k) f2 rfl (fun i hi => by rcases Nat.lt_or_gt_of_ne hi with h5 | h5; exact f1 i h5; exact f3 i h5) (s.size - (k + 1))
  rw [show k + 1 + (s.size - (k + 1)) = s.size from by omega] at key
  obtain ⟨p1, p2, p3, p4⟩ := adS_bd s s.size
  obtain ⟨q1, q2, q3, q4⟩ := adS_bd t s.size
  generalize adS s s.size = S at *
  generalize adS t s.size = T at *
  generalize bt s k = b at *
  congr 1
  rw [bne_iff_ne]
  omega
end Go.Proofs.Ytbdhiipmaloccaa.Pure
