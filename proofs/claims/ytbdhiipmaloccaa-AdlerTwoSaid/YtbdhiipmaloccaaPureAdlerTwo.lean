/- The sum of two texts, one behind the other, is what their sums are together. -/
import Derived.Test.YtbdhiipmaloccaaPx8
import Derived.Test.YtbdhiipmaloccaaAdA
import Derived.Test.YtbdhiipmaloccaaPureAdlerJoins
namespace Go.Proofs.Ytbdhiipmaloccaa.Pure
open Go.RowKit Go.Proofs.Ytbdhiipmaloccaa.P Go.Proofs.YtbdhiipmaloccaaW.PrintWords Go.Proofs.YtbdhiipmaloccaaW.PrintLast Go.Proofs.Ytbdhiipmaloccaa.O Go.Proofs.Ytbdhiipmaloccaa.Ad
theorem two_ (s t : ByteArray) (ht : t.size ≤ 10000) :
    adler_Join.f ((adS s s.size).2 * 65536 + (adS s s.size).1) ((adS t t.size).2 * 65536 + (adS t t.size).1) (t.size : Int) = some ((adS (s ++ t) (s ++ t).size).2 * 65536 + (adS (s ++ t) (s ++ t).size).1) := by
  obtain ⟨e1, e2⟩ := adS_join s t t.size (Nat.le_refl _)
  obtain ⟨p1, p2, p3, p4⟩ := adS_bd s s.size
  obtain ⟨q1, q2, q3, q4⟩ := adS_bd t t.size
  rw [ByteArray.size_append, e1, e2]
  generalize (adS s s.size).1 = a at *
  generalize (adS s s.size).2 = b at *
  generalize (adS t t.size).1 = c at *
  generalize (adS t t.size).2 = d at *
  generalize t.size = n at *
  unfold adler_Join.f
  have hm : 0 ≤ (n : Int) * (a + 65520) ∧ (n : Int) * (a + 65520) ≤ 10000 * 131040 :=
    ⟨Int.mul_nonneg (by omega) (by omega), Int.mul_le_mul (by omega) (by omega) (by omega) (by omega)⟩
  rw [low16 _ (by omega) (by omega), low16 _ (by omega) (by omega), tmod_pos (x := (n : Int)) (by omega)]
  rw [show (b * 65536 + a) % 65536 = a from by omega, show (b * 65536 + a) / 65536 = b from by omega, show (d * 65536 + c) % 65536 = c from by omega, show (d * 65536 + c) / 65536 = d from by omega, show (n : Int) % 65521 = n from by omega]
  rw [wrap_id (x := b + d) (by omega) (by omega), wrap_id (x := a + 65521) (by omega) (by omega), show a + 65521 - 1 = a + 65520 from by omega, wrap_id (x := a + 65520) (by omega) (by omega)]
  generalize (n : Int) * (a + 65520) = m at *
  rw [wrap_id (x := m) (by omega) (by omega), wrap_id (x := b + d + m) (by omega) (by omega), tmod_pos (x := b + d + m) (by omega)]
  rw [wrap_id (x := a + c) (by omega) (by omega), wrap_id (x := a + c + 65521) (by omega) (by omega), show a + c + 65521 - 1 = a + c + 65520 from by omega, wrap_id (x := a + c + 65520) (by omega) (by omega), tmod_pos (x := a + c + 65520) (by omega)]
  rw [wrap_id (x := _ * 65536) (by omega) (by omega), wrap_id (by omega) (by omega)]
theorem AdlerTwo : broadsheetlaw02_AdlerTwo.Pure := by
  intro s t hs ht
  refine ⟨1, ?_⟩
  unfold broadsheetlaw02_AdlerTwo.f
  rw [awakeJ_]
  simp only [Option.bind_some, if_true, broadsheetlaw02_AdlerTwo.j0]
  by_cases h : (s.size : Int) > 10000
  · rw [if_pos h]
  · rw [if_neg h]
    by_cases h2 : (t.size : Int) > 10000
    · simp [h2]
    · simp only [h2, decide_false]
      rw [if_neg (by decide), if_pos (by omega), adler_some s (by omega), adler_some t (by omega), adler_some (s ++ t) (by rw [ByteArray.size_append]; omega)]
      simp only [Option.bind_some]
      rw [two_ s t (by omega)]
      simp
end Go.Proofs.Ytbdhiipmaloccaa.Pure
