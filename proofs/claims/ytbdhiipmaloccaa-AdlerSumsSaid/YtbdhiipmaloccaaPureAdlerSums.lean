/- The sum that the program computes of any text is the document's. -/
import Derived.Test.YtbdhiipmaloccaaPx3
import Derived.Test.YtbdhiipmaloccaaAdA
namespace Go.Proofs.Ytbdhiipmaloccaa.Pure
open Go.RowKit Go.Proofs.Ytbdhiipmaloccaa.P Go.Proofs.YtbdhiipmaloccaaW.PrintWords Go.Proofs.YtbdhiipmaloccaaW.PrintLast Go.Proofs.Ytbdhiipmaloccaa.O Go.Proofs.Ytbdhiipmaloccaa.Ad
theorem awake_ : broadsheetlaw02_awake.f = some true := by decide +kernel
theorem ref_sum (s : ByteArray) (hs : s.size ≤ 140737488351232) (d : Nat) : ∀ (k i : Nat), i + d = s.size → d < k →
    broadsheetref02_Sum.l0 k s (adS s i).1 (adS s i).2 i = some ((adS s s.size).2 * 65536 + (adS s s.size).1) := by
  induction d with
  | zero =>
    intro k i hi hk
    obtain ⟨k, rfl⟩ : ∃ m, k = m + 1 := ⟨k - 1, by omega⟩
    obtain rfl : i = s.size := by omega
    obtain ⟨p1, p2, p3, p4⟩ := adS_bd s s.size
    simp only [broadsheetref02_Sum.l0]
    rw [if_neg (by omega), wrap_id (x := _ * 65536) (by omega) (by omega), wrap_id (by omega) (by omega)]
  | succ d ih =>
    intro k i hi hk
    obtain ⟨k, rfl⟩ : ∃ m, k = m + 1 := ⟨k - 1, by omega⟩
    obtain ⟨p1, p2, p3, p4⟩ := adS_bd s i
    have hr := bt_range s i
    have h := ih k (i + 1) (by omega) (by omega)
    simp only [broadsheetref02_Sum.l0]
    rw [if_pos (by omega), if_pos (by omega)]
    simp only [adS] at h
    rw [wrap_id (x := bt s i) (by omega) (by omega), wrap_id (x := (adS s i).1 + bt s i) (by omega) (by omega), tmod_pos (by omega), wrap_id (x := (adS s i).2 + _) (by omega) (by omega), tmod_pos (by omega), wrap_id (x := (i : Int) + 1) (by omega) (by omega)]
    exact h
theorem AdlerSums : broadsheetlaw02_AdlerSums.Pure := by
  intro s hs
  refine ⟨s.size + 1, ?_⟩
  unfold broadsheetlaw02_AdlerSums.f
  rw [awake_]
  simp only [Option.bind_some, if_true]
  by_cases h : (s.size : Int) > 10000
  · rw [if_pos h]
  · rw [if_neg h, adler_some s (by omega)]
    have e := ref_sum s hs s.size (s.size + 1) 0 (by omega) (by omega)
    simp only [adS] at e
    unfold broadsheetref02_Sum.f
    have e' : broadsheetref02_Sum.l0 (s.size + 1) s 1 0 0 = _ := e
    rw [e']
    simp
end Go.Proofs.Ytbdhiipmaloccaa.Pure
