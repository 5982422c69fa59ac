/- What the Adler sums are, in plain numbers: lemmas without any program. -/
import Derived.Test.YtbdhiipmaloccaaOadler
namespace Go.Proofs.Ytbdhiipmaloccaa.Ad
open Go.RowKit Go.Proofs.YtbdhiipmaloccaaW.PrintWords Go.Proofs.YtbdhiipmaloccaaW.PrintLast Go.Proofs.Ytbdhiipmaloccaa.O
set_option linter.unusedVariables false
set_option linter.unusedSimpArgs false

theorem wrap_id {x : Int} (h0 : -9223372036854775808 ≤ x) (h1 : x ≤ 9223372036854775807) : wrap64 x = x := by unfold wrap64; omega
theorem tmod_pos {x : Int} (h : 0 ≤ x) (m : Int) : Int.tmod x m = x % m := Int.tmod_eq_emod_of_nonneg h
/-- The sums look at the first bytes alone. -/
theorem adS_congr (s t : ByteArray) (k : Nat) (h : ∀ i : Nat, i < k → bt s i = bt t i) : adS s k = adS t k := by
  induction k with
  | zero => rfl
  | succ k ih =>
    have e := ih (fun i hi => h i (by omega))
    simp only [adS, e, h k (by omega)]
theorem bt_app_left (s t : ByteArray) (i : Nat) (h : i < s.size) : bt (s ++ t) i = bt s i := by
  unfold bt
  have h2 : (i : Int).toNat < (s ++ t).size := by rw [ByteArray.size_append]; omega
  have h3 : (i : Int).toNat < s.size := by omega
  rw [dif_pos h2, dif_pos h3]
  rw [ByteArray.getElem_append_left h3]
theorem bt_app_right (s t : ByteArray) (i : Nat) (h : i < t.size) : bt (s ++ t) ((s.size + i : Nat) : Int) = bt t i := by
  unfold bt
  have h2 : ((s.size + i : Nat) : Int).toNat < (s ++ t).size := by rw [ByteArray.size_append]; omega
  have h3 : (i : Int).toNat < t.size := by omega
  rw [dif_pos h2, dif_pos h3]
  rw [ByteArray.getElem_append_right (by omega)]
  have e : ((s.size + i : Nat) : Int).toNat - s.size = (i : Int).toNat := by omega
  simp only [e]
theorem bt_cut (s : ByteArray) (a b i : Nat) (h : i < min b s.size - a) : bt (s.extract a b) i = bt s ((a + i : Nat) : Int) := by
  unfold bt
  have h2 : (i : Int).toNat < (s.extract a b).size := by rw [ByteArray.size_extract]; omega
  have h3 : ((a + i : Nat) : Int).toNat < s.size := by omega
  rw [dif_pos h2, dif_pos h3]
  rw [ByteArray.getElem_extract]
  congr 2
/-- The two sums of two texts, one behind the other. -/
theorem adS_join (s t : ByteArray) (k : Nat) (hk : k ≤ t.size) :
    (adS (s ++ t) (s.size + k)).1 = ((adS s s.size).1 + (adS t k).1 + 65520) % 65521 ∧
    (adS (s ++ t) (s.size + k)).2 = ((adS s s.size).2 + (adS t k).2 + (k : Int) * ((adS s s.size).1 + 65520)) % 65521 := by
  have e0 : adS (s ++ t) s.size = adS s s.size := adS_congr _ _ _ (fun i hi => bt_app_left s t i hi)
  obtain ⟨p1, p2, p3, p4⟩ := adS_bd s s.size
  induction k with
  | zero => 
    rw [Nat.add_zero, e0]
    simp only [adS]
    constructor
    · omega
    · simp; omega
  | succ k ih =>
    obtain ⟨i1, i2⟩ := ih (by omega)
    have hb : bt (s ++ t) ((s.size + k : Nat) : Int) = bt t k := bt_app_right s t k (by omega)
    obtain ⟨q1, q2, q3, q4⟩ := adS_bd t k
    have hr := bt_range t k
    rw [show s.size + (k + 1) = (s.size + k) + 1 from rfl]
    simp only [adS, i1, i2, hb]
    generalize adS t k = T at *
    generalize adS s s.size = S at *
    generalize bt t k = c at *
    have hm : ((k + 1 : Nat) : Int) * (S.1 + 65520) = (k : Int) * (S.1 + 65520) + (S.1 + 65520) := by
      rw [Int.natCast_add, Int.add_mul]; simp
    rw [hm]
    generalize (k : Int) * (S.1 + 65520) = m at *
    constructor <;> omega
/-- Where one byte alone is another one, the first sums differ by those bytes' difference. -/
theorem adS_one (s t : ByteArray) (k : Nat) (c d : Int) (hs : bt s k = c) (ht : bt t k = d) (h : ∀ i : Nat, i ≠ k → bt s i = bt t i) (j : Nat) :
    ((adS s (k + 1 + j)).1 - (adS t (k + 1 + j)).1 - (c - d)) % 65521 = 0 := by
  induction j with
  | zero =>
    have e : adS s k = adS t k := adS_congr _ _ _ (fun i hi => h i (by omega))
    simp only [Nat.add_zero, adS, e, hs, ht]
    omega
  | succ j ih =>
    have hb := h (k + 1 + j) (by omega)
    rw [show k + 1 + (j + 1) = (k + 1 + j) + 1 from rfl]
    simp only [adS, hb]
    generalize adS s (k + 1 + j) = S at *
    generalize adS t (k + 1 + j) = T at *
    generalize bt t ((k + 1 + j : Nat) : Int) = x at *
    omega
theorem wf_u32 {x : Int} (h : (Lit.int .u32 x).wf = true) : 0 ≤ x ∧ x < 4294967296 := by
  have h' : IntKind.u32.min ≤ x ∧ x ≤ IntKind.u32.max := by simpa [Lit.wf] using h
  rw [show IntKind.u32.min = 0 from by decide, show IntKind.u32.max = 4294967295 from by decide] at h'
  omega
theorem wf_u8 {x : Int} (h : (Lit.int .u8 x).wf = true) : 0 ≤ x ∧ x < 256 := by
  have h' : IntKind.u8.min ≤ x ∧ x ≤ IntKind.u8.max := by simpa [Lit.wf] using h
  rw [show IntKind.u8.min = 0 from by decide, show IntKind.u8.max = 255 from by decide] at h'
  omega
theorem adler_some (s : ByteArray) (h : s.size ≤ 9223372036854775807) : adler_Sum.f s = some ((adS s s.size).2 * 65536 + (adS s s.size).1) := by
  unfold adler_Sum.f
  rw [if_pos h]
end Go.Proofs.Ytbdhiipmaloccaa.Ad
