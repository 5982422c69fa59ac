/- What the program says that two sums are together is the document's. -/
import Derived.Test.YtbdhiipmaloccaaPx7
import Derived.Test.YtbdhiipmaloccaaAdA
namespace Go.Proofs.Ytbdhiipmaloccaa.Pure
open Go.RowKit Go.Proofs.Ytbdhiipmaloccaa.P Go.Proofs.YtbdhiipmaloccaaW.PrintWords Go.Proofs.YtbdhiipmaloccaaW.PrintLast Go.Proofs.Ytbdhiipmaloccaa.O Go.Proofs.Ytbdhiipmaloccaa.Ad
theorem awakeJ_ : broadsheetlaw02_awake.f = some true := by decide +kernel
theorem low16 (x : Int) (h0 : 0 ≤ x) (h1 : x < 9223372036854775808) : Go.bits .and .i64 x 65535 = x % 65536 :=
  bits_mask .i64 63 (by decide) (fun n h0 h1 => by rw [IntKind.wrap_i64]; omega) 16 (by decide) x h0 (by omega)
theorem join_eq (x y n : Int) (hx : 0 ≤ x) (hx' : x < 4294967296) (hy : 0 ≤ y) (hy' : y < 4294967296) : adler_Join.f x y n = broadsheetref02_Join.f x y n := by
  unfold adler_Join.f broadsheetref02_Join.f
  rw [low16 x hx (by omega), low16 y hy (by omega), tmod_pos hx 65536, tmod_pos hy 65536, Int.tdiv_eq_ediv_of_nonneg hx, Int.tdiv_eq_ediv_of_nonneg hy, wrap_id (x := x / 65536) (by omega) (by omega), wrap_id (x := y / 65536) (by omega) (by omega)]
theorem AdlerJoins : broadsheetlaw02_AdlerJoins.Pure := by
  intro x y n hx hy hn
  have bx := wf_u32 hx
  have by_ := wf_u32 hy
  have bn := wf_u32 hn
  unfold broadsheetlaw02_AdlerJoins.f
  rw [awakeJ_]
  simp only [Option.bind_some, if_true]
  rw [wrap_id (x := x) (by omega) (by omega), wrap_id (x := y) (by omega) (by omega), join_eq x y _ (by omega) (by omega) (by omega) (by omega)]
  unfold broadsheetref02_Join.f
  simp
end Go.Proofs.Ytbdhiipmaloccaa.Pure
