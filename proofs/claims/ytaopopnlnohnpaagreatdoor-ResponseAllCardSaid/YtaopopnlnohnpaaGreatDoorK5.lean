/- Texts of this seat, joined: lemmas and walks that its statements' proofs use. -/
import Derived.Test.YtaopopnlnohnpaaGreatDoorK4
import Derived.Test.YtaopopnlnohnpaaGreatDoorK3
import Derived.Test.YtaopopnlnohnpaaGreatDoorK2
import Derived.Test.YtaopopnlnohnpaaGreatDoorK1
import Derived.Lib.SplitLaws
import Derived.Lib.AtoiAllCases
import Derived.Deep.Slices
import Derived.LaidLaws
import Derived.MakeChecks
import Derived.HandedShaped
import Derived.Lib.LaidU8
import Derived.Lib.LaidTab
import Derived.WalkKit
import Derived.ProofKit
import Derived.Deep.SlicePairs
import Derived.SizedLaws
import Derived.Lib.SmallJoins
import Derived.Test.YtaopopnlnohnpaaGreatDoorRows
/- SpU -/
namespace Go.Proofs.YtaopopnlnohnpaaGreatDoor.Sp
open Go Go.RowKit Go.Proofs.YtaopopnlnohnpaaGreatDoorW.PrintWords Go.Proofs.YtaopopnlnohnpaaGreatDoorW.PrintLast Go.Proofs.YtaopopnlnohnpaaGreatDoor.O Go.Proofs.YtaopopnlnohnpaaGreatDoor.P
set_option linter.unusedVariables false
set_option linter.unusedSimpArgs false
theorem join_snoc (acc : List L) (v sep : L) (h : acc ≠ []) : Lib.join (acc ++ [v]) sep = Lib.join acc sep ++ sep ++ v := by
  obtain ⟨x, r, rfl⟩ := List.exists_cons_of_ne_nil h
  rw [List.cons_append, Lib.join_cons, Lib.join_cons]
  unfold Lib.joinTail
  simp
theorem join_one (v sep : L) : Lib.join [v] sep = v := by rw [Lib.join_cons]; simp [Lib.joinTail]
theorem join_le (acc r : List L) (sep : L) : (Lib.join acc sep).length ≤ (Lib.join (acc ++ r) sep).length := by
  cases acc with
  | nil => rw [Lib.join_nil]; simp
  | cons x t =>
    rw [List.cons_append, Lib.join_cons, Lib.join_cons]
    unfold Lib.joinTail
    simp
theorem rget_l0 (l : List (L × L)) (n : L) (M : Nat) (hM : M ≤ 1000000) (hn : n.length ≤ M) (hl : l.length ≤ 1000000) (hp : ∀ p ∈ l, p.1.length ≤ M) : ∀ (d k i : Nat) (acc : List L), i + d = l.length → d + M + 1 < k → acc.length ≤ i → (Lib.join (acc ++ vals (l.drop i) n) [44, 32]).length ≤ 140737488355328 →
    broadsheetref18_Get.l0 k (pairsB l) (mk n) (mk (Lib.join acc [44, 32])) (acc.length : Int) (i : Int) = some (mk (Lib.join (acc ++ vals (l.drop i) n) [44, 32]), ((acc ++ vals (l.drop i) n).length : Int)) := by
  intro d
  induction d with
  | zero =>
    intro k i acc hi hk ha hj
    obtain ⟨k, rfl⟩ : ∃ k', k = k' + 1 := ⟨k - 1, by omega⟩
    rw [List.drop_eq_nil_of_le (by omega)] at hj ⊢
    rw [show vals [] n = [] from rfl, List.append_nil] at hj ⊢
    rw [broadsheetref18_Get.l0, if_neg (by rw [pairsB_len]; omega)]
  | succ d ih =>
    intro k i acc hi hk ha hj
    obtain ⟨k, rfl⟩ : ∃ k', k = k' + 1 := ⟨k - 1, by omega⟩
    have hlt : i < l.length := by omega
    have hmem := hp l[i] (List.getElem_mem hlt)
    rw [List.drop_eq_getElem_cons hlt, vals_cons] at hj ⊢
    rw [broadsheetref18_Get.l0, if_pos (by rw [pairsB_len]; omega), if_pos (by omega), rd_pairs l i l[i] (List.getElem?_eq_getElem hlt), rlowF _ _ (by omega) (by omega), Option.bind_some, rlowF _ _ (by omega) (by omega), Option.bind_some, tl_mk, tl_mk, w1 i (by omega), w1 acc.length (by omega)]
    by_cases h : low l[i].1 = low n
    · rw [if_pos h] at hj ⊢
      rw [if_pos h]
      have hstep := ih k (i + 1) (acc ++ [l[i].2]) (by omega) (by omega) (by rw [List.length_append, List.length_singleton]; omega) (by rw [List.append_assoc]; exact hj)
      rw [List.append_assoc, List.length_append, List.length_singleton] at hstep
      have hle := join_le (acc ++ [l[i].2]) (vals (l.drop (i + 1)) n) [44, 32]
      rw [List.append_assoc] at hle
      have hle2 := Nat.le_trans hle hj
      by_cases h0 : acc = []
      · subst h0
        rw [List.nil_append, join_one] at hle2 hstep
        rw [if_neg (by simp), if_pos (by rw [mk_size, mk_size, Lib.join_nil]; simp only [List.length_nil]; omega), mk_append, Lib.join_nil]
        exact hstep
      · have hpos := List.length_pos_iff.2 h0
        rw [join_snoc _ _ _ h0] at hle2 hstep
        simp only [List.length_append, List.length_cons, List.length_nil] at hle2
        rw [if_pos (by omega), show (⟨#[44, 32]⟩ : ByteArray) = mk [44, 32] from rfl, if_pos (by rw [mk_size]; omega), mk_append, if_pos (by rw [mk_size, mk_size, List.length_append]; simp only [List.length_cons, List.length_nil]; omega), mk_append]
        exact hstep
    · rw [if_neg h] at hj ⊢
      rw [if_neg h]
      exact ih k (i + 1) acc (by omega) (by omega) (by omega) hj
theorem rgetF (l : List (L × L)) (n : L) (M k : Nat) (hM : M ≤ 1000000) (hn : n.length ≤ M) (hl : l.length ≤ 1000000) (hp : ∀ p ∈ l, p.1.length ≤ M) (hj : (get l n).1.length ≤ 140737488355328) (hk : l.length + M + 1 < k) : broadsheetref18_Get.f k (pairsB l) (mk n) = some (mk (get l n).1, (get l n).2) := by
  have := rget_l0 l n M hM hn hl hp l.length k 0 [] (by omega) hk (by simp) (by simpa [get] using hj)
  unfold broadsheetref18_Get.f
  rw [List.drop_zero, List.nil_append] at this
  exact this
theorem get_bound (l : List (L × L)) (n : L) (hl : l.length ≤ 100000) (hp : ∀ p ∈ l, p.1.length ≤ 100000 ∧ p.2.length ≤ 100000) : (get l n).1.length ≤ 10000200000 :=
  Nat.le_trans (get_len _ _ 100000 (fun p h => (hp p h).2)) (Nat.mul_le_mul (show l.length ≤ 100000 from hl) (Nat.le_refl 100002))
theorem rsame_l0 (l : List (L × L)) (hl : l.length ≤ 1000000) : ∀ (d k i : Nat), i + d = l.length → d < k → broadsheetref07_SamePairs.l0 k (pairsB l) (pairsB l) i = some true := by
  intro d
  induction d with
  | zero =>
    intro k i hi hk
    obtain ⟨k, rfl⟩ : ∃ k', k = k' + 1 := ⟨k - 1, by omega⟩
    rw [broadsheetref07_SamePairs.l0, if_neg (by rw [pairsB_len]; omega)]
  | succ d ih =>
    intro k i hi hk
    obtain ⟨k, rfl⟩ : ∃ k', k = k' + 1 := ⟨k - 1, by omega⟩
    rw [broadsheetref07_SamePairs.l0, if_pos (by rw [pairsB_len]; omega), if_pos (by omega), if_pos (by rw [pairsB_len]; omega), if_neg (by simp), w1 i (by omega)]
    exact ih k (i + 1) (by omega) (by omega)
theorem rsameF (l : List (L × L)) (k : Nat) (hl : l.length ≤ 1000000) (hk : l.length < k) : broadsheetref07_SamePairs.f k (pairsB l) (pairsB l) = some true := by
  unfold broadsheetref07_SamePairs.f
  rw [if_pos rfl]
  exact rsame_l0 l hl l.length k 0 (by omega) hk
/-- What is told of fields, behind what is told already. -/
def printA (acc : L) (l : List (L × L)) : L × Int := if l.all okP = true then (if 8000 < (acc ++ prs l ++ [13, 10]).length then ([], 2) else (acc ++ prs l ++ [13, 10], 0)) else ([], 180)
theorem printA_nil (l : List (L × L)) : printA [] l = printS l := rfl
theorem printA_cons (acc : L) (p : L × L) (l : List (L × L)) : printA acc (p :: l) = if okP p = true then printA (acc ++ (p.1 ++ 58 :: 32 :: (p.2 ++ [13, 10]))) l else ([], 180) := by
  have e : acc ++ prs (p :: l) ++ [13, 10] = acc ++ (p.1 ++ 58 :: 32 :: (p.2 ++ [13, 10])) ++ prs l ++ [13, 10] := by simp [prs]
  unfold printA
  rw [e, List.all_cons]
  by_cases h : okP p = true
  · rw [if_pos h, h, Bool.true_and]
  · rw [if_neg h, Bool.eq_false_iff.2 h, Bool.false_and, if_neg (by decide)]
theorem wsF (a b : L) (h : a.length + b.length ≤ 100000000000) : ∃ n e, Builder_WriteString.f (mk a) (mk b) = some (n, e, mk (a ++ b)) := by
  unfold Builder_WriteString.f
  rw [if_pos (by rw [mk_size, mk_size]; omega), mk_append]
  exact ⟨_, _, rfl⟩
theorem okP_parts (p : L × L) : okP p = (isTok p.1 && fval p.2) := rfl
theorem fprint_l0 (l : List (L × L)) (hl : l.length ≤ 100000) (hp : ∀ p ∈ l, p.1.length ≤ 100000 ∧ p.2.length ≤ 100000) : ∀ (d k i : Nat) (acc : L), i + d = l.length → d + 100002 < k → acc.length + d * 300000 ≤ 90000000000 →
    field_Print.l0 k (pairsB l) (l.length : Int) (i : Int) (mk acc) = some (mk (printA acc (l.drop i)).1, (printA acc (l.drop i)).2) := by
  intro d
  induction d with
  | zero =>
    intro k i acc hi hk ha
    obtain ⟨k, rfl⟩ : ∃ k', k = k' + 1 := ⟨k - 1, by omega⟩
    rw [List.drop_eq_nil_of_le (by omega), field_Print.l0, if_neg (by omega), show (⟨#[13, 10]⟩ : ByteArray) = mk [13, 10] from rfl]
    obtain ⟨n, e, hw⟩ := wsF acc [13, 10] (by simp only [List.length_cons, List.length_nil]; omega)
    rw [hw, Option.bind_some, Builder_Len.f, Option.bind_some]
    unfold printA
    simp only [List.all_nil, if_true, prs, List.append_nil, mk_size]
    by_cases h : 8000 < (acc ++ [13, 10]).length
    · rw [if_pos (by omega), if_pos h]; rfl
    · rw [if_neg (by omega), if_neg h, Builder_String.f, Option.bind_some]
  | succ d ih =>
    intro k i acc hi hk ha
    obtain ⟨k, rfl⟩ : ∃ k', k = k' + 1 := ⟨k - 1, by omega⟩
    have hlt : i < l.length := by omega
    obtain ⟨h1, h2⟩ := hp l[i] (List.getElem_mem hlt)
    rw [List.drop_eq_getElem_cons hlt, printA_cons, okP_parts]
    rw [field_Print.l0, if_pos (by omega), if_pos (by omega), if_pos (by rw [pairsB_len]; omega), rd_pairs l i l[i] (List.getElem?_eq_getElem hlt)]
    simp only
    rw [isTokF _ k (by omega) (by omega), Option.bind_some, fvalF _ (by omega), Option.bind_some]
    by_cases ht : isTok l[i].1 = true
    · by_cases hv : fval l[i].2 = true
      · have e1 : (⟨#[58, 32]⟩ : ByteArray) = mk [58, 32] := rfl
        have e2 : (⟨#[13, 10]⟩ : ByteArray) = mk [13, 10] := rfl
        rw [if_pos ht, if_pos hv, e1, e2, mk_append, mk_append, mk_append, if_pos (by rw [mk_size]; omega), if_pos (by rw [mk_size, mk_size, List.length_append]; simp only [List.length_cons, List.length_nil]; omega), if_pos (by rw [mk_size, List.length_append, List.length_append]; simp only [List.length_cons, List.length_nil]; omega)]
        obtain ⟨n, e, hw⟩ := wsF acc (l[i].1 ++ [58, 32] ++ l[i].2 ++ [13, 10]) (by simp only [List.length_append, List.length_cons, List.length_nil]; omega)
        rw [hw, Option.bind_some, w1 i (by omega)]
        simp only
        rw [ih k (i + 1) _ (by omega) (by omega) (by simp only [List.length_append, List.length_cons, List.length_nil]; omega)]
        simp [ht, hv]
      · rw [if_pos ht, if_neg hv]
        simp [ht, hv]
        rfl
    · rw [if_neg ht]
      simp [ht]
      rfl
theorem fprintF (l : List (L × L)) (k : Nat) (hl : l.length ≤ 16000) (hp : ∀ p ∈ l, p.1.length ≤ 100000 ∧ p.2.length ≤ 100000) (hk : 200000 ≤ k) : field_Print.f k (pairsB l) = some (mk (printS l).1, (printS l).2) := by
  have := fprint_l0 l (by omega) hp l.length k 0 [] (by omega) (by omega) (by simp; omega)
  unfold field_Print.f
  rw [pairsB_len]
  rw [List.drop_zero, printA_nil] at this
  exact this
theorem rprint_l0 (l : List (L × L)) (hl : l.length ≤ 100000) (hp : ∀ p ∈ l, p.1.length ≤ 100000 ∧ p.2.length ≤ 100000) : ∀ (d k i : Nat) (acc : L), i + d = l.length → d + 300010 < k → acc.length + d * 300000 ≤ 90000000000 →
    broadsheetref18_Print.l0 k (pairsB l) (mk acc) (i : Int) = some (mk (printA acc (l.drop i)).1, (printA acc (l.drop i)).2) := by
  intro d
  induction d with
  | zero =>
    intro k i acc hi hk ha
    obtain ⟨k, rfl⟩ : ∃ k', k = k' + 1 := ⟨k - 1, by omega⟩
    rw [List.drop_eq_nil_of_le (by omega), broadsheetref18_Print.l0, if_neg (by rw [pairsB_len]; omega), show (⟨#[13, 10]⟩ : ByteArray) = mk [13, 10] from rfl, if_pos (by rw [mk_size]; omega), mk_append, mk_size]
    unfold printA
    simp only [List.all_nil, if_true, prs, List.append_nil]
    by_cases h : 8000 < (acc ++ [13, 10]).length
    · rw [if_pos (by omega), if_pos h]; rfl
    · rw [if_neg (by omega), if_neg h]
  | succ d ih =>
    intro k i acc hi hk ha
    obtain ⟨k, rfl⟩ : ∃ k', k = k' + 1 := ⟨k - 1, by omega⟩
    have hlt : i < l.length := by omega
    obtain ⟨h1, h2⟩ := hp l[i] (List.getElem_mem hlt)
    rw [List.drop_eq_getElem_cons hlt, printA_cons, okP_parts]
    rw [broadsheetref18_Print.l0, if_pos (by rw [pairsB_len]; omega), if_pos (by omega), rd_pairs l i l[i] (List.getElem?_eq_getElem hlt)]
    simp only
    rw [rtokF _ k (by omega) (by omega), Option.bind_some]
    simp only [tl_mk]
    have hit : isTok l[i].1 = (decide ((tok l[i].1).1 ≠ []) && decide ((tok l[i].1).2 = [])) := rfl
    by_cases ht1 : (tok l[i].1).1 = []
    · rw [if_pos ht1]
      simp [hit, ht1]
      rfl
    · rw [if_neg ht1]
      by_cases ht2 : (tok l[i].1).2 = []
      · have ht : isTok l[i].1 = true := by rw [hit]; simp [ht1, ht2]
        rw [if_pos ht2, rfvalF _ k (by omega) (by omega), Option.bind_some]
        by_cases hv : fval l[i].2 = true
        · have e1 : (⟨#[58, 32]⟩ : ByteArray) = mk [58, 32] := rfl
          have e2 : (⟨#[13, 10]⟩ : ByteArray) = mk [13, 10] := rfl
          rw [if_pos hv, e1, e2, mk_append, mk_append, mk_append, mk_append, if_pos (by rw [mk_size, mk_size]; omega), if_pos (by rw [mk_size, List.length_append]; omega), if_pos (by rw [mk_size, mk_size]; simp only [List.length_append, List.length_cons, List.length_nil]; omega), if_pos (by rw [mk_size]; simp only [List.length_append, List.length_cons, List.length_nil]; omega), w1 i (by omega)]
          rw [ih k (i + 1) _ (by omega) (by omega) (by simp only [List.length_append, List.length_cons, List.length_nil]; omega)]
          simp [ht, hv]
        · rw [if_neg hv]
          simp [ht, hv]
          rfl
      · rw [if_neg ht2]
        simp [hit, ht2]
        rfl
theorem rprintF (l : List (L × L)) (k : Nat) (hl : l.length ≤ 16000) (hp : ∀ p ∈ l, p.1.length ≤ 100000 ∧ p.2.length ≤ 100000) (hk : 400000 ≤ k) : broadsheetref18_Print.f k (pairsB l) = some (mk (printS l).1, (printS l).2) := by
  have := rprint_l0 l (by omega) hp l.length k 0 [] (by omega) (by omega) (by simp; omega)
  unfold broadsheetref18_Print.f
  rw [List.drop_zero, printA_nil] at this
  exact this
end Go.Proofs.YtaopopnlnohnpaaGreatDoor.Sp
/- SpQ -/
namespace Go.Proofs.YtaopopnlnohnpaaGreatDoor.Mn
open Go.RowKit Go.Proofs.YtaopopnlnohnpaaGreatDoorW.PrintWords Go.Proofs.YtaopopnlnohnpaaGreatDoorW.PrintLast Go.Proofs.YtaopopnlnohnpaaGreatDoor.O
set_option linter.unusedVariables false
set_option linter.unusedSimpArgs false
abbrev L := List UInt8
def cut (c : UInt8) : L → List L
  | [] => [[]]
  | x :: r => if x = c then [] :: cut c r else match cut c r with
    | [] => [[x]]
    | y :: z => (x :: y) :: z
theorem cut_ne (c : UInt8) (l : L) : cut c l ≠ [] := by
  cases l with
  | nil => simp [cut]
  | cons x r =>
    unfold cut
    split
    · simp
    · split <;> simp
theorem cut_other (c x : UInt8) (r : L) (h : x ≠ c) : ∃ y z, cut c r = y :: z ∧ cut c (x :: r) = (x :: y) :: z := by
  cases e : cut c r with
  | nil => exact absurd e (cut_ne c r)
  | cons y z => exact ⟨y, z, rfl, by simp [cut, h, e]⟩
theorem cut_none (c : UInt8) : ∀ (a : L), c ∉ a → cut c a = [a]
  | [], _ => rfl
  | x :: a, h => by
    obtain ⟨y, z, e1, e2⟩ := cut_other c x a (fun e => h (by simp [e]))
    rw [cut_none c a (fun e => h (by simp [e]))] at e1
    obtain ⟨rfl, rfl⟩ := List.cons.inj e1
    exact e2
theorem dec_len (k : Nat) : ∀ u, u < 10 ^ (k + 1) → (Lib.decDigits u).length ≤ k + 1 := by
  induction k with
  | zero =>
    intro u h
    rw [Lib.decDigits, dif_pos (by omega)]
    simp
  | succ k ih =>
    intro u h
    rw [Lib.decDigits]
    split
    · simp
    · have := ih (u / 10) (by rw [Nat.pow_succ] at h; omega)
      simp only [List.length_append, List.length_singleton]
      omega
/-- The reader of numerals that the document has. -/
def dec (n : Int) : L := Lib.decDigits n.toNat
theorem itoa_dec (n : Int) (h : 0 ≤ n) : Lib.itoa n = dec n := by
  unfold Lib.itoa dec
  rw [if_neg (by omega)]
end Go.Proofs.YtaopopnlnohnpaaGreatDoor.Mn
/- SpL -/
namespace Go.Proofs.YtaopopnlnohnpaaGreatDoor.Sp
open Go Go.RowKit Go.Proofs.YtaopopnlnohnpaaGreatDoorW.PrintWords Go.Proofs.YtaopopnlnohnpaaGreatDoorW.PrintLast Go.Proofs.YtaopopnlnohnpaaGreatDoor.O Go.Proofs.YtaopopnlnohnpaaGreatDoor.P
set_option linter.unusedVariables false
set_option linter.unusedSimpArgs false
theorem fldF (s : L) (hs : s.length < 4294967281) : field_Parse.f (mk s) = some (fldB (fields s)) := by
  unfold field_Parse.f fieldsB
  rw [if_pos (by rw [mk_size]; exact hs), mk_data]
  rfl
theorem line_cut (s : L) : (line s = none ∧ Lib.cut s [13, 10] = (s, [], false)) ∨ (∃ p, line s = some p ∧ Lib.cut s [13, 10] = (p.1, p.2, true)) := by
  cases e : line s with
  | none =>
    have hb : lineB (mk s) = none := by unfold lineB; rw [mk_data, e]; rfl
    have := cut_none (mk s) hb
    rw [mk_data] at this
    exact .inl ⟨rfl, this⟩
  | some p =>
    have hb : lineB (mk s) = some (mk p.1, mk p.2) := by unfold lineB; rw [mk_data, e]; rfl
    have := cut_some (mk s) (mk p.1) (mk p.2) hb
    rw [mk_data, mk_data, mk_data] at this
    exact .inr ⟨p, rfl, this⟩
def sts : List Int := [200, 201, 204, 304, 400, 404, 405, 406, 409, 412, 413, 415, 431, 500, 503, 507]
theorem reason_out {n : Int} (h : n ∉ sts) : reasonS n = [] := by
  simp only [sts, List.mem_cons, List.not_mem_nil, or_false, not_or] at h
  obtain ⟨h0, h1, h2, h3, h4, h5, h6, h7, h8, h9, h10, h11, h12, h13, h14, h15⟩ := h
  unfold reasonS reasonL
  simp only [List.foldl_cons, List.foldl_nil]
  rw [if_neg (fun e => h15 e.symm), if_neg (fun e => h14 e.symm), if_neg (fun e => h13 e.symm), if_neg (fun e => h12 e.symm), if_neg (fun e => h11 e.symm), if_neg (fun e => h10 e.symm), if_neg (fun e => h9 e.symm), if_neg (fun e => h8 e.symm), if_neg (fun e => h7 e.symm), if_neg (fun e => h6 e.symm), if_neg (fun e => h5 e.symm), if_neg (fun e => h4 e.symm), if_neg (fun e => h3 e.symm), if_neg (fun e => h2 e.symm), if_neg (fun e => h1 e.symm), if_neg (fun e => h0 e.symm)]
theorem reason_in {n : Int} (h : reasonS n ≠ []) : n ∈ sts := by
  by_cases hn : n ∈ sts
  · exact hn
  · exact absurd (reason_out hn) h
theorem reason_ne : ∀ n ∈ sts, reasonS n ≠ [] := by decide +kernel
theorem sts_bd : ∀ n ∈ sts, 200 ≤ n ∧ n ≤ 507 := by decide +kernel
theorem reason_len : ∀ n ∈ sts, (reasonS n).length ≤ 40 := by decide +kernel
theorem reasonF (n : Int) (h1 : -9223372036854775808 ≤ n) (h2 : n ≤ 9223372036854775807) : response_Reason.f n = some (mk (reasonS n)) := by
  unfold response_Reason.f
  rw [if_pos ⟨h1, h2⟩]
  rfl
theorem rreasonF (n : Int) : broadsheetref21_Reason.f n = some (mk (reasonS n)) := by
  unfold broadsheetref21_Reason.f
  by_cases h0 : n = 200
  · subst h0; rfl
  rw [if_neg h0]
  by_cases h1 : n = 201
  · subst h1; rfl
  rw [if_neg h1]
  by_cases h2 : n = 204
  · subst h2; rfl
  rw [if_neg h2]
  by_cases h3 : n = 304
  · subst h3; rfl
  rw [if_neg h3]
  by_cases h4 : n = 400
  · subst h4; rfl
  rw [if_neg h4]
  by_cases h5 : n = 404
  · subst h5; rfl
  rw [if_neg h5]
  by_cases h6 : n = 405
  · subst h6; rfl
  rw [if_neg h6]
  by_cases h7 : n = 406
  · subst h7; rfl
  rw [if_neg h7]
  by_cases h8 : n = 409
  · subst h8; rfl
  rw [if_neg h8]
  by_cases h9 : n = 412
  · subst h9; rfl
  rw [if_neg h9]
  by_cases h10 : n = 413
  · subst h10; rfl
  rw [if_neg h10]
  by_cases h11 : n = 415
  · subst h11; rfl
  rw [if_neg h11]
  by_cases h12 : n = 431
  · subst h12; rfl
  rw [if_neg h12]
  by_cases h13 : n = 500
  · subst h13; rfl
  rw [if_neg h13]
  by_cases h14 : n = 503
  · subst h14; rfl
  rw [if_neg h14]
  by_cases h15 : n = 507
  · subst h15; rfl
  rw [if_neg h15]
  rw [reason_out (by simp [sts, h0, h1, h2, h3, h4, h5, h6, h7, h8, h9, h10, h11, h12, h13, h14, h15])]
  rfl
def bareI (n : Int) : Bool := decide (n = 204) || decide (n = 304)
theorem bareF (n : Int) : response_bare.f n = some (bareI n) := by
  unfold response_bare.f bareI
  by_cases h : n = 204
  · rw [if_pos h]; simp [h]
  · rw [if_neg h]
    by_cases h2 : n = 304 <;> simp [h, h2]
theorem rbareF (n : Int) : broadsheetref21_bare.f n = some (bareI n) := by
  unfold broadsheetref21_bare.f bareI
  by_cases h : n = 204
  · rw [if_pos h]; simp [h]
  · rw [if_neg h]
    by_cases h2 : n = 304 <;> simp [h, h2]
theorem one_dig (u : Nat) (h : u < 10) : strOfNums [((48 + u : Nat) : Int)] = mk [UInt8.ofNat (48 + u)] := rfl
theorem digits_l0 (j : Nat) : ∀ (k u : Nat) (acc : L), u < 10 ^ (j + 1) → u < 1000000000000 → j + 1 ≤ k → acc.length + j ≤ 1000000000 →
    broadsheetref03_digits.l0 k (u : Int) (mk acc) = some (mk (Lib.decDigits u ++ acc)) := by
  induction j with
  | zero =>
    intro k u acc hu hb hk ha
    obtain ⟨k, rfl⟩ : ∃ k', k = k' + 1 := ⟨k - 1, by omega⟩
    have hw : (wrap64 (48 + (u : Int))) % 256 = ((48 + u : Nat) : Int) := by rw [wrap_id (by omega) (by omega)]; omega
    rw [broadsheetref03_digits.l0, if_neg (by omega), if_pos (by simp)]
    simp only [List.nil_append, Option.bind_some]
    rw [hw, one_dig u (by omega), if_pos (by rw [mk_size, mk_size]; simp only [List.length_singleton]; omega), mk_append, Lib.decDigits, dif_pos (by omega)]
  | succ j ih =>
    intro k u acc hu hb hk ha
    obtain ⟨k, rfl⟩ : ∃ k', k = k' + 1 := ⟨k - 1, by omega⟩
    by_cases h : u < 10
    · have hw : (wrap64 (48 + (u : Int))) % 256 = ((48 + u : Nat) : Int) := by rw [wrap_id (by omega) (by omega)]; omega
      rw [broadsheetref03_digits.l0, if_neg (by omega), if_pos (by simp)]
      simp only [List.nil_append, Option.bind_some]
      rw [hw, one_dig u h, if_pos (by rw [mk_size, mk_size]; simp only [List.length_singleton]; omega), mk_append, Lib.decDigits, dif_pos h]
    · have em : Int.tmod (u : Int) 10 = ((u % 10 : Nat) : Int) := by rw [Int.tmod_eq_emod_of_nonneg (by omega)]; omega
      have ed : Int.tdiv (u : Int) 10 = ((u / 10 : Nat) : Int) := by rw [Int.tdiv_eq_ediv_of_nonneg (by omega)]; omega
      have hw : (wrap64 (48 + ((u % 10 : Nat) : Int))) % 256 = ((48 + u % 10 : Nat) : Int) := by rw [wrap_id (by omega) (by omega)]; omega
      rw [broadsheetref03_digits.l0, if_pos (by omega), if_pos (by simp), em, ed, wrap_id (x := ((u / 10 : Nat) : Int)) (by omega) (by omega)]
      simp only [List.nil_append, Option.bind_some]
      rw [hw, one_dig (u % 10) (by omega), if_pos (by rw [mk_size, mk_size]; simp only [List.length_singleton]; omega), mk_append,
        ih k (u / 10) _ (by rw [Nat.pow_succ] at hu; omega) (by omega) (by omega) (by simp only [List.length_append, List.length_singleton]; omega)]
      conv => rhs; rw [Lib.decDigits, dif_neg h]
      simp
theorem digF (n : Int) (k : Nat) (hk : 20 ≤ k) (h0 : 0 ≤ n) (h : n < 1000000000000) : broadsheetref03_Digits.f k n = some (mk (Mn.dec n)) := by
  obtain ⟨u, rfl⟩ := Int.eq_ofNat_of_zero_le h0
  unfold broadsheetref03_Digits.f broadsheetref03_digits.f
  have := digits_l0 12 k u [] (by omega) (by omega) (by omega) (by simp)
  rw [if_neg (by omega), show (⟨#[]⟩ : ByteArray) = mk [] from rfl, this, Option.bind_some, List.append_nil]
  rfl
theorem itoF (n : Int) (h0 : 0 ≤ n) (h : n < 1000000000000) : strconv_Itoa.f n = some (mk (Mn.dec n)) := by
  unfold strconv_Itoa.f
  rw [if_pos ⟨by omega, by omega⟩, Mn.itoa_dec n h0]
  rfl
theorem dec_ln (n : Int) (h : n < 1000000000000) : (Mn.dec n).length ≤ 12 := Mn.dec_len 11 n.toNat (by omega)
def dig3 (n : Nat) : L := [UInt8.ofNat (48 + n / 100), UInt8.ofNat (48 + n / 10 % 10), UInt8.ofNat (48 + n % 10)]
theorem dec3 (n : Nat) (h1 : 100 ≤ n) (h2 : n < 1000) : Lib.decDigits n = dig3 n := by
  rw [Lib.decDigits, dif_neg (by omega), Lib.decDigits, dif_neg (by omega), Lib.decDigits, dif_pos (by omega)]
  unfold dig3
  rw [Nat.div_div_eq_div_mul]
  rfl
def verL : L := [72, 84, 84, 80, 47, 49, 46, 49, 32]
def firstL (n : Int) : L := verL ++ dig3 n.toNat ++ [32] ++ reasonS n
theorem dec_sts {n : Int} (h : n ∈ sts) : Mn.dec n = dig3 n.toNat := by
  have := sts_bd n h
  exact dec3 n.toNat (by omega) (by omega)
theorem firstF {n : Int} (h : n ∈ sts) : response_first.f n = some (mk (firstL n)) := by
  have hb := sts_bd n h
  have hr := reason_len n h
  have e1 : (⟨#[72, 84, 84, 80, 47, 49, 46, 49, 32]⟩ : ByteArray) = mk verL := rfl
  have e2 : (⟨#[32]⟩ : ByteArray) = mk [32] := rfl
  have hd : (dig3 n.toNat).length = 3 := rfl
  have hv : verL.length = 9 := rfl
  unfold response_first.f
  rw [itoF n (by omega) (by omega), Option.bind_some, dec_sts h, e1, e2, mk_append, mk_append, if_pos (by rw [mk_size, hd]; omega), if_pos (by rw [mk_size, List.length_append, hd, hv]; omega), reasonF n (by omega) (by omega), Option.bind_some, if_pos (by rw [mk_size, mk_size]; simp only [List.length_append, hd, hv, List.length_singleton]; omega), mk_append]
  rfl
def statusS (l : L) : Int := (sts.find? fun n => decide (l = firstL n)).getD 0
theorem status_of {n : Int} (h : n ∈ sts) : statusS (firstL n) = n := by
  revert n
  show ∀ n ∈ sts, statusS (firstL n) = n
  decide +kernel
theorem status_no {l : L} (h : ∀ n ∈ sts, l ≠ firstL n) : statusS l = 0 := by
  unfold statusS
  rw [List.find?_eq_none.2 (fun n hn => by simpa using h n hn)]
  rfl
theorem status_cases (l : L) : (∃ n ∈ sts, l = firstL n ∧ statusS l = n) ∨ ((∀ n ∈ sts, l ≠ firstL n) ∧ statusS l = 0) := by
  by_cases h : ∃ n ∈ sts, l = firstL n
  · obtain ⟨n, h1, rfl⟩ := h
    exact .inl ⟨n, h1, rfl, status_of h1⟩
  · exact .inr ⟨fun n hn e => h ⟨n, hn, e⟩, status_no (fun n hn e => h ⟨n, hn, e⟩)⟩
theorem atoi_rng (l : L) : -9223372036854775808 ≤ (atoiF l).1 ∧ (atoiF l).1 ≤ 9223372036854775807 := by
  unfold atoiF
  match h : Lib.atoiAll l with
  | Lib.NumEnd.syntax => simp only; decide
  | .range =>
    simp only
    unfold Lib.atoiSat
    split <;> decide
  | .ok v =>
    simp only
    unfold Lib.atoiAll at h
    split at h
    · cases h
    · simp only at h
      split at h
      · cases h
      · cases h
      · split at h
        · cases h
        · rename_i h1
          split at h
          · cases h
          · rename_i h2
            injection h with h
            split at h <;> omega
theorem stat_at : ∀ n ∈ sts, (atoiF (Lib.cut (Lib.trimPrefix (firstL n) verL) [32]).1).1 = n := by
  decide +kernel
theorem statusF (l : L) (h : l.length ≤ 4000000000) : response_status.f (mk l) = some (statusS l) := by
  have htl : (Lib.trimPrefix l verL).length ≤ l.length := by
    unfold Lib.trimPrefix
    split
    · rw [List.length_drop]; omega
    · exact Nat.le_refl _
  have hcl : (Lib.cut (Lib.trimPrefix l verL) [32]).1.length ≤ l.length := by
    rcases index1 32 (Lib.trimPrefix l verL) with ⟨e1, _⟩ | ⟨x, y, e1, e2, _⟩
    · rw [cut1_none e1]; exact htl
    · have e := cut1_some x y e2
      rw [← e1] at e
      rw [e]
      have := congrArg List.length e1
      rw [List.length_append] at this
      simp only
      omega
  obtain ⟨v1, v2⟩ := atoi_rng (Lib.cut (Lib.trimPrefix l verL) [32]).1
  have hst := stat_at
  unfold response_status.f strings_TrimPrefix.f
  rw [Option.bind_some, show (⟨#[72, 84, 84, 80, 47, 49, 46, 49, 32]⟩ : ByteArray) = mk verL from rfl, mk_data, mk_data, show (⟨(Lib.trimPrefix l verL).toArray⟩ : ByteArray) = mk (Lib.trimPrefix l verL) from rfl, show (⟨#[32]⟩ : ByteArray) = mk [32] from rfl, cut_l, if_pos (by omega), Option.bind_some]
  simp only
  unfold strconv_Atoi.f
  rw [if_pos (by rw [mk_size]; omega), Option.bind_some, mk_data]
  have key : ∀ v : Int, -9223372036854775808 ≤ v → v ≤ 9223372036854775807 → (∀ n ∈ sts, l = firstL n → v = n) → ((response_Reason.f v).bind fun t145 => (if t145.toList = ([] : List UInt8) then (some 0) else ((response_first.f v).bind fun t146 => (if t146.toList = (mk l).toList then (some v) else (some 0))))) = some (statusS l) := by
    intro v h1 h2 hv
    rw [reasonF v h1 h2, Option.bind_some, tl_mk]
    rcases status_cases l with ⟨n, hn, e1, e2⟩ | ⟨hno, e2⟩
    · obtain rfl := hv n hn e1
      rw [if_neg (reason_ne v hn), firstF hn, Option.bind_some, tl_mk, tl_mk, if_pos e1.symm, e2]
    · rw [e2]
      by_cases hr : reasonS v = []
      · rw [if_pos hr]
      · rw [if_neg hr, firstF (reason_in hr), Option.bind_some, tl_mk, tl_mk, if_neg (fun e => hno v (reason_in hr) e.symm)]
  have hk := key (atoiF (Lib.cut (Lib.trimPrefix l verL) [32]).1).1 v1 v2 (fun n hn e => by rw [e]; exact hst n hn)
  by_cases hi : (atoiF (Lib.cut (Lib.trimPrefix l verL) [32]).1).2.isNone = true
  · rw [if_pos hi]; exact hk
  · rw [if_neg hi]; exact hk
def clenL : L := [99, 111, 110, 116, 101, 110, 116, 45, 108, 101, 110, 103, 116, 104]
def CLenL : L := [67, 111, 110, 116, 101, 110, 116, 45, 76, 101, 110, 103, 116, 104]
def withLen (n : Int) (l : List (L × L)) (b : L) : List (L × L) := if bareI n = true then l else l ++ [(CLenL, Mn.dec b.length)]
def printR (n : Int) (l : List (L × L)) (b : L) : L × Int :=
  if reasonS n = [] ∨ (bareI n = true ∧ b ≠ []) then ([], 1) else if 100000 < b.length then ([], 2) else if 0 < (get l clenL).2 then ([], 180)
  else if (printS (withLen n l b)).2 = 0 then (firstL n ++ [13, 10] ++ (printS (withLen n l b)).1 ++ b, 0) else ([], (printS (withLen n l b)).2)
def Short (l : List (L × L)) : Prop := l.length ≤ 15000 ∧ ∀ p ∈ l, p.1.length ≤ 100000 ∧ p.2.length ≤ 100000
theorem printS_len (l : List (L × L)) : (printS l).1.length ≤ 8000 := by
  unfold printS
  split
  · split
    · simp
    · simp only; omega
  · simp
theorem short_with {n : Int} {l : List (L × L)} {b : L} (h : Short l) (hb : b.length ≤ 100000) : (withLen n l b).length ≤ 16000 ∧ ∀ p ∈ withLen n l b, p.1.length ≤ 100000 ∧ p.2.length ≤ 100000 := by
  have hd := dec_ln (b.length : Int) (by omega)
  have h1 := h.1
  unfold withLen
  split
  · exact ⟨by omega, h.2⟩
  · refine ⟨by rw [List.length_append, List.length_singleton]; omega, fun p hp => ?_⟩
    rcases List.mem_append.1 hp with hp | hp
    · exact h.2 p hp
    · rw [List.mem_singleton.1 hp]
      exact ⟨show CLenL.length ≤ 100000 by decide, by simp only; omega⟩
theorem get_bd {l : List (L × L)} (h : Short l) (n : L) : (get l n).1.length ≤ 10000200000 := get_bound l n (by have := h.1; omega) h.2
theorem lensF {l : List (L × L)} (k : Nat) (h : Short l) (hk : 200000 ≤ k) : response_lengths.f k (pairsB l) = some (get l clenL).2 := by
  unfold response_lengths.f
  have h1 := h.1
  rw [show (⟨#[99, 111, 110, 116, 101, 110, 116, 45, 108, 101, 110, 103, 116, 104]⟩ : ByteArray) = mk clenL from rfl, getF l clenL k (by decide) (by omega) (fun p hp => by have := h.2 p hp; omega) (by have := get_bd h clenL; omega) (by omega)]
  rfl
theorem rlensF {l : List (L × L)} (k : Nat) (h : Short l) (hk : 200000 ≤ k) : broadsheetref18_Get.f k (pairsB l) (⟨#[99, 111, 110, 116, 101, 110, 116, 45, 108, 101, 110, 103, 116, 104]⟩ : ByteArray) = some (mk (get l clenL).1, (get l clenL).2) := by
  have h1 := h.1
  rw [show (⟨#[99, 111, 110, 116, 101, 110, 116, 45, 108, 101, 110, 103, 116, 104]⟩ : ByteArray) = mk clenL from rfl]
  exact rgetF l clenL 100000 k (by decide) (by decide) (by omega) (fun p hp => (h.2 p hp).1) (by have := get_bd h clenL; omega) (by omega)
theorem pairs_with (l : List (L × L)) (v : L) : pairsB l ++ [(⟨(⟨#[67, 111, 110, 116, 101, 110, 116, 45, 76, 101, 110, 103, 116, 104]⟩ : ByteArray), mk v⟩ : S41)] = pairsB (l ++ [(CLenL, v)]) := by
  rw [pairsB_app]
  rfl
theorem first_len {n : Int} (h : n ∈ sts) : (firstL n).length ≤ 60 := by
  have := reason_len n h
  unfold firstL
  simp only [List.length_append, List.length_cons, List.length_nil, verL, dig3]
  omega
theorem pj1 {n : Int} (l' l : List (L × L)) (b : L) (k : Nat) (hn : n ∈ sts) (hl : l'.length ≤ 16000 ∧ ∀ p ∈ l', p.1.length ≤ 100000 ∧ p.2.length ≤ 100000) (hb : b.length ≤ 100000) (hk : 1000000 ≤ k) :
    response_Print.j1 k (pairsB l') n (pairsB l) (mk b) = some (if (printS l').2 = 0 then (mk (firstL n ++ [13, 10] ++ (printS l').1 ++ b), 0) else (⟨#[]⟩, (printS l').2)) := by
  obtain ⟨k, rfl⟩ : ∃ k', k = k' + 1 := ⟨k - 1, by omega⟩
  have h1 := printS_len l'
  have h2 := first_len hn
  rw [response_Print.j1, fprintF l' k hl.1 hl.2 (by omega), Option.bind_some]
  simp only
  by_cases h : (printS l').2 = 0
  · rw [if_pos h, if_pos h, firstF hn, Option.bind_some, show (⟨#[13, 10]⟩ : ByteArray) = mk [13, 10] from rfl, mk_append, mk_append, mk_append, if_pos (by rw [mk_size]; omega), if_pos (by rw [mk_size, mk_size, List.length_append]; simp only [List.length_cons, List.length_nil]; omega), if_pos (by rw [mk_size, mk_size]; simp only [List.length_append, List.length_cons, List.length_nil]; omega)]
  · rw [if_neg h, if_neg h]
theorem printF (n : Int) (l : List (L × L)) (b : L) (k : Nat) (hn1 : -9223372036854775808 ≤ n) (hn2 : n ≤ 9223372036854775807) (hl : Short l) (hb : b.length ≤ 1000000) (hk : 2000000 ≤ k) : response_Print.f k n (pairsB l) (mk b) = some (mk (printR n l b).1, (printR n l b).2) := by
  obtain ⟨k, rfl⟩ : ∃ k', k = k' + 1 := ⟨k - 1, by omega⟩
  unfold response_Print.f printR
  rw [reasonF n hn1 hn2, Option.bind_some, tl_mk]
  by_cases h0 : reasonS n = []
  · rw [if_pos h0, if_pos (.inl h0), response_Print.j0, if_pos (by simp [h0])]
    rfl
  rw [if_neg h0, bareF, Option.bind_some, tl_mk]
  have hj : (if bareI n = true then (response_Print.j0 (k + 1) (b != ([] : List UInt8)) n (pairsB l) (mk b)) else (response_Print.j0 (k + 1) false n (pairsB l) (mk b))) = response_Print.j0 (k + 1) (decide (bareI n = true ∧ b ≠ [])) n (pairsB l) (mk b) := by
    by_cases h : bareI n = true
    · rw [if_pos h]
      congr 1
      cases b <;> simp [h]
    · rw [if_neg h, decide_eq_false (fun e => h e.1)]
  rw [hj, response_Print.j0]
  by_cases h1 : bareI n = true ∧ b ≠ []
  · rw [if_pos (decide_eq_true h1), if_pos (.inr h1)]
    rfl
  rw [if_neg (by simpa using h1), if_neg (not_or.2 ⟨h0, h1⟩), mk_size]
  by_cases h2 : 100000 < b.length
  · rw [if_pos (by omega), if_pos h2]
    rfl
  rw [if_neg (by omega), if_neg h2, lensF k hl (by omega), Option.bind_some]
  by_cases h3 : 0 < (get l clenL).2
  · rw [if_pos h3, if_pos h3]
    rfl
  rw [if_neg h3, if_neg h3, slices_Clip.f, Option.bind_some, bareF, Option.bind_some]
  have hs := short_with (n := n) hl (show b.length ≤ 100000 by omega)
  have hin := reason_in h0
  have hfin : ∀ l', l' = withLen n l b → response_Print.j1 k (pairsB l') n (pairsB l) (mk b) = some (mk (if (printS (withLen n l b)).2 = 0 then (firstL n ++ [13, 10] ++ (printS (withLen n l b)).1 ++ b, (0 : Int)) else ([], (printS (withLen n l b)).2)).1, (if (printS (withLen n l b)).2 = 0 then (firstL n ++ [13, 10] ++ (printS (withLen n l b)).1 ++ b, (0 : Int)) else ([], (printS (withLen n l b)).2)).2) := by
    rintro l' rfl
    rw [pj1 _ l b k hin hs (by omega) (by omega)]
    split <;> rfl
  by_cases h4 : bareI n = true
  · rw [if_pos h4]
    exact hfin l (by unfold withLen; rw [if_pos h4])
  · rw [if_neg h4, itoF (b.length : Int) (by omega) (by omega), Option.bind_some, if_pos (by rw [pairsB_len]; have := hl.1; omega), pairs_with]
    exact hfin _ (by unfold withLen; rw [if_neg h4])
theorem rpj1 {n : Int} (l' l : List (L × L)) (b : L) (k : Nat) (hn : n ∈ sts) (hl : l'.length ≤ 16000 ∧ ∀ p ∈ l', p.1.length ≤ 100000 ∧ p.2.length ≤ 100000) (hb : b.length ≤ 100000) (hk : 1000000 ≤ k) :
    broadsheetref21_Print.j1 k (pairsB l') n (pairsB l) (mk b) = some (if (printS l').2 = 0 then (mk (firstL n ++ [13, 10] ++ (printS l').1 ++ b), 0) else (⟨#[]⟩, (printS l').2)) := by
  obtain ⟨k, rfl⟩ : ∃ k', k = k' + 1 := ⟨k - 1, by omega⟩
  have h1 := printS_len l'
  have h2 := reason_len n hn
  have hb2 := sts_bd n hn
  rw [broadsheetref21_Print.j1, rprintF l' k hl.1 hl.2 (by omega), Option.bind_some]
  simp only
  by_cases h : (printS l').2 = 0
  · rw [if_pos h, if_pos h, digF n k (by omega) (by omega) (by omega), Option.bind_some, dec_sts hn, rreasonF, Option.bind_some, show (⟨#[72, 84, 84, 80, 47, 49, 46, 49, 32]⟩ : ByteArray) = mk verL from rfl, show (⟨#[32]⟩ : ByteArray) = mk [32] from rfl, show (⟨#[13, 10]⟩ : ByteArray) = mk [13, 10] from rfl]
    simp only [mk_append, mk_size, List.length_append, List.length_cons, List.length_nil, show verL.length = 9 from rfl, show (dig3 n.toNat).length = 3 from rfl]
    rw [if_pos (by omega), if_pos (by omega), if_pos (by omega), if_pos (by omega), if_pos (by omega), if_pos (by omega)]
    rfl
  · rw [if_neg h, if_neg h]
theorem rprF (n : Int) (l : List (L × L)) (b : L) (k : Nat) (hl : Short l) (hb : b.length ≤ 1000000) (hk : 2000000 ≤ k) : broadsheetref21_Print.f k n (pairsB l) (mk b) = some (mk (printR n l b).1, (printR n l b).2) := by
  obtain ⟨k, rfl⟩ : ∃ k', k = k' + 1 := ⟨k - 1, by omega⟩
  unfold broadsheetref21_Print.f printR
  rw [rreasonF n, Option.bind_some, tl_mk]
  by_cases h0 : reasonS n = []
  · rw [if_pos h0, if_pos (.inl h0), broadsheetref21_Print.j0, if_pos rfl]
    rfl
  rw [if_neg h0, rbareF, Option.bind_some, tl_mk]
  have hj : (if bareI n = true then (broadsheetref21_Print.j0 (k + 1) (b != ([] : List UInt8)) n (pairsB l) (mk b)) else (broadsheetref21_Print.j0 (k + 1) false n (pairsB l) (mk b))) = broadsheetref21_Print.j0 (k + 1) (decide (bareI n = true ∧ b ≠ [])) n (pairsB l) (mk b) := by
    by_cases h : bareI n = true
    · rw [if_pos h]
      congr 1
      cases b <;> simp [h]
    · rw [if_neg h, decide_eq_false (fun e => h e.1)]
  rw [hj, broadsheetref21_Print.j0]
  by_cases h1 : bareI n = true ∧ b ≠ []
  · rw [if_pos (decide_eq_true h1), if_pos (.inr h1)]
    rfl
  rw [if_neg (by simpa using h1), if_neg (not_or.2 ⟨h0, h1⟩), mk_size]
  by_cases h2 : 100000 < b.length
  · rw [if_pos (by omega), if_pos h2]
    rfl
  rw [if_neg (by omega), if_neg h2, rlensF k hl (by omega), Option.bind_some]
  simp only
  by_cases h3 : 0 < (get l clenL).2
  · rw [if_pos h3, if_pos h3]
    rfl
  rw [if_neg h3, if_neg h3, if_pos (by rw [pairsB_len]; have := hl.1; simp only [List.length_nil]; omega)]
  simp only [List.nil_append, Option.bind_some]
  rw [rbareF, Option.bind_some]
  have hs := short_with (n := n) hl (show b.length ≤ 100000 by omega)
  have hin := reason_in h0
  have hfin : ∀ l', l' = withLen n l b → broadsheetref21_Print.j1 k (pairsB l') n (pairsB l) (mk b) = some (mk (if (printS (withLen n l b)).2 = 0 then (firstL n ++ [13, 10] ++ (printS (withLen n l b)).1 ++ b, (0 : Int)) else ([], (printS (withLen n l b)).2)).1, (if (printS (withLen n l b)).2 = 0 then (firstL n ++ [13, 10] ++ (printS (withLen n l b)).1 ++ b, (0 : Int)) else ([], (printS (withLen n l b)).2)).2) := by
    rintro l' rfl
    rw [rpj1 _ l b k hin hs (by omega) (by omega)]
    split <;> rfl
  by_cases h4 : bareI n = true
  · rw [if_pos h4]
    exact hfin l (by unfold withLen; rw [if_pos h4])
  · rw [if_neg h4, digF (b.length : Int) k (by omega) (by omega) (by omega), Option.bind_some, if_pos (by rw [pairsB_len]; have := hl.1; omega), pairs_with]
    exact hfin _ (by unfold withLen; rw [if_neg h4])
def zr (e : Int) : Int × List (L × L) × L × Int := (0, [], [], e)
def behind (n : Int) (r : L) : Int × List (L × L) × L × Int :=
  if (fields r).2.2 ≠ 0 then zr (fields r).2.2
  else if bareI n = true then (if 0 < (get (fields r).1 clenL).2 ∨ (fields r).2.1 ≠ [] then zr 190 else (n, (fields r).1, (fields r).2.1, 0))
  else if (get (fields r).1 clenL).2 = 1 ∧ (fields r).1.getLast? = some (clenL, Mn.dec (fields r).2.1.length) ∧ (fields r).2.1.length ≤ 100000 then (n, (fields r).1.dropLast, (fields r).2.1, 0) else zr 190
def parseR (s : L) : Int × List (L × L) × L × Int := match line s with
  | none => zr 200
  | some (l, r) => if statusS l = 0 then zr 200 else behind (statusS l) r
def txt4 (q : Int × List (L × L) × L × Int) : Int × List S41 × ByteArray × Int := (q.1, pairsB q.2.1, mk q.2.2.1, q.2.2.2)
theorem fields_ok_short (r : L) (h : r.length ≤ 30000) (h0 : (fields r).2.2 = 0) : Short (fields r).1 := by
  obtain ⟨_, _, h1⟩ := fields_back r h0
  have h2 := prs_len (fields r).1
  have hf := fields_len r
  exact ⟨by omega, fun p hp => by have := hf.2.1 p hp; omega⟩
theorem get_snoc (a : List (L × L)) (p : L × L) : (get (a ++ [p]) clenL).2 = (get a clenL).2 + (if low p.1 = clenL then 1 else 0) := by
  have hl : low clenL = clenL := by decide +kernel
  unfold get vals
  rw [List.filter_append, List.map_append, List.length_append]
  by_cases h : low p.1 = clenL
  · rw [if_pos h]; simp [h, hl]
  · rw [if_neg h]; simp [h, hl]
theorem get_none : (get ([] : List (L × L)) clenL).2 = 0 := rfl
theorem last_at (a : List (L × L)) (p : L × L) : rd_T41 (pairsB (a ++ [p])) (a.length : Int) = ⟨mk p.1, mk p.2⟩ := rd_pairs _ _ _ (by simp)
theorem last_idx (a : List (L × L)) (p : L × L) (h : a.length ≤ 1000000) : wrap64 (((a ++ [p]).length : Int) - 1) = (a.length : Int) := by
  rw [List.length_append, List.length_singleton, wrap_id (by omega) (by omega)]
  omega
theorem short_cut {a : List (L × L)} {p : L × L} (h : Short (a ++ [p])) : Short a := by
  refine ⟨?_, fun q hq => h.2 q (List.mem_append_left _ hq)⟩
  have := h.1
  rw [List.length_append] at this
  omega
theorem pj0 (n : Int) (r : L) (k : Nat) (hn : statusS [] = 0 → True) (hr : r.length ≤ 30000) (hk : 2000000 ≤ k) : response_Parse.j0 k (mk r) n false = some (txt4 (behind n r)) := by
  obtain ⟨k, rfl⟩ : ∃ k', k = k' + 1 := ⟨k - 1, by omega⟩
  have hf := fields_len r
  rw [response_Parse.j0, if_neg (by decide), fldF r (by omega), Option.bind_some]
  unfold fldB behind
  simp only
  by_cases h1 : (fields r).2.2 = 0
  · have hs := fields_ok_short r hr h1
    rw [if_pos h1, if_neg (show ¬ (fields r).2.2 ≠ 0 by simpa using h1), bareF, Option.bind_some, tl_mk]
    generalize (fields r).1 = h at *
    generalize (fields r).2.1 = bd at *
    by_cases h2 : bareI n = true
    · rw [if_pos h2, if_pos h2, lensF k hs (by omega), Option.bind_some]
      by_cases h3 : 0 < (get h clenL).2
      · rw [if_pos h3, if_pos (.inl h3)]
        rfl
      · rw [if_neg h3]
        by_cases h4 : bd = []
        · rw [if_pos h4, if_neg (by simp [h3, h4])]
          rfl
        · rw [if_neg h4, if_pos (.inr h4)]
          rfl
    · rw [if_neg h2, if_neg h2, lensF k hs (by omega), Option.bind_some]
      by_cases h3 : (get h clenL).2 = 1
      · rw [if_pos h3]
        rcases List.eq_nil_or_concat h with rfl | ⟨a, p, rfl⟩
        · rw [get_none] at h3
          cases h3
        · rw [List.concat_eq_append] at *
          have hal : a.length ≤ 15000 := by have := hs.1; rw [List.length_append] at this; omega
          rw [pairsB_len, last_idx a p (by omega), if_pos (by omega), if_pos (by rw [List.length_append, List.length_singleton]; omega), mk_size, itoF (bd.length : Int) (by omega) (by omega), Option.bind_some, last_at]
          simp only [tl_mk]
          rw [show ([99, 111, 110, 116, 101, 110, 116, 45, 108, 101, 110, 103, 116, 104] : List UInt8) = clenL from rfl, List.getLast?_concat]
          by_cases h5 : p.1 = clenL ∧ p.2 = Mn.dec (bd.length : Int)
          · obtain ⟨p1, p2⟩ := p
            obtain ⟨rfl, rfl⟩ := h5
            rw [if_neg (by simp)]
            by_cases h6 : 100000 < bd.length
            · rw [if_pos (by omega), if_neg (fun e => by have := e.2.2; omega)]
              rfl
            · rw [if_neg (by omega), if_pos (by rw [List.length_append, List.length_singleton]; omega), if_pos ⟨h3, rfl, by omega⟩, List.dropLast_concat, Int.toNat_natCast, pairsB_app, List.take_left' (pairsB_len a)]
              rfl
          · rw [if_pos (by
              by_cases h7 : p.1 = clenL
              · have h8 : ¬ p.2 = Mn.dec (bd.length : Int) := fun e => h5 ⟨h7, e⟩
                simp [h7, h8]
              · simp [h7]), if_neg (fun e => h5 (by have := Option.some.inj e.2.1; rw [this]; exact ⟨rfl, rfl⟩))]
            rfl
      · rw [if_neg h3, if_neg (fun e => h3 e.1)]
        rfl
  · rw [if_neg h1, if_pos h1]
    rfl
theorem parseRF (s : L) (k : Nat) (hs : s.length ≤ 30000) (hk : 3000000 ≤ k) : response_Parse.f k (mk s) = some (txt4 (parseR s)) := by
  unfold response_Parse.f parseR
  rw [show (⟨#[13, 10]⟩ : ByteArray) = mk [13, 10] from rfl, cut_l, if_pos (by omega), Option.bind_some]
  obtain ⟨k, rfl⟩ : ∃ k', k = k' + 1 := ⟨k - 1, by omega⟩
  rcases line_cut s with ⟨e1, e2⟩ | ⟨⟨l, r⟩, e1, e2⟩
  · rw [e1, e2]
    simp only
    rw [statusF s (by omega), Option.bind_some, if_neg (by decide), response_Parse.j0, if_pos rfl]
    rfl
  · have hll := congrArg List.length (line_len s _ e1)
    simp only [List.length_append, List.length_cons] at hll
    rw [e1, e2]
    simp only [if_true]
    rw [statusF l (by omega), Option.bind_some]
    by_cases h : statusS l = 0
    · rw [if_pos h, h, response_Parse.j0, if_pos (by decide)]
      rfl
    · rw [if_neg h, show (statusS l == 0) = false from by simpa using h]
      exact pj0 _ r (k + 1) (fun _ => trivial) (by omega) (by omega)
def isD (c : UInt8) : Bool := decide (48 ≤ c.toNat) && decide (c.toNat ≤ 57)
def num3 (a b c : UInt8) : Int := if a = 48 then -1 else if isD a = true ∧ isD b = true ∧ isD c = true then (((a.toNat - 48) * 100 + (b.toNat - 48) * 10 + (c.toNat - 48) : Nat) : Int) else -1
theorem isD_lt {c : UInt8} (h : isD c = true) : 48 ≤ c.toNat ∧ c.toNat ≤ 57 := by
  unfold isD at h
  simpa using h
theorem num_step (s : L) (k i v : Nat) (b : UInt8) (hb : (s.drop i).head? = some b) (hi : i ≤ 100) (hv : v ≤ 10000) : broadsheetref03_Number.l0 (k + 1) (mk s) (v : Int) (i : Int) = if isD b = true then broadsheetref03_Number.l0 k (mk s) ((v * 10 + (b.toNat - 48) : Nat) : Int) ((i + 1 : Nat) : Int) else some (-1) := by
  have hlt : i < s.length := by
    by_cases h : i < s.length
    · exact h
    · rw [List.drop_eq_nil_of_le (by omega)] at hb
      simp at hb
  obtain ⟨b', e1, e2⟩ := mk_bt s i hlt
  rw [e1] at hb
  obtain rfl : b' = b := by simpa using hb
  have hbl := b'.toNat_lt
  rw [broadsheetref03_Number.l0, if_pos (by rw [mk_size]; omega), if_pos (by omega), e2]
  by_cases h1 : (b'.toNat : Int) < 48
  · rw [if_pos h1, if_neg (fun e => by have := isD_lt e; omega)]
  · rw [if_neg h1]
    by_cases h2 : (b'.toNat : Int) > 57
    · rw [if_pos h2, if_neg (fun e => by have := isD_lt e; omega)]
    · have hd : isD b' = true := by unfold isD; simp; omega
      have e3 : wrap64 (wrap64 (wrap64 ((v : Int) * 10) + wrap64 (b'.toNat : Int)) - 48) = ((v * 10 + (b'.toNat - 48) : Nat) : Int) := by
        rw [wrap_id (x := (v : Int) * 10) (by omega) (by omega), wrap_id (x := (b'.toNat : Int)) (by omega) (by omega), wrap_id (x := (v : Int) * 10 + (b'.toNat : Int)) (by omega) (by omega), wrap_id (by omega) (by omega)]
        omega
      rw [if_neg h2, if_pos hd, e3, w1 i (by omega)]
theorem numF (a b c : UInt8) (k : Nat) (hk : 10 ≤ k) : broadsheetref03_Number.f k (mk [a, b, c]) = some (num3 a b c) := by
  obtain ⟨k, rfl⟩ : ∃ k', k = k' + 5 := ⟨k - 5, by omega⟩
  unfold broadsheetref03_Number.f num3
  rw [tl_mk, if_neg (by simp), mk_size, if_neg (by simp), if_pos (by simp), bt_head]
  have h48 : ((a.toNat : Int) = 48) ↔ a = 48 := u8i a 48 (by omega)
  by_cases h : a = 48
  · rw [if_pos (h48.2 h), if_pos h, broadsheetref03_Number.j0, if_pos (by simp)]
  · rw [if_neg (fun e => h (h48.1 e)), if_neg h, broadsheetref03_Number.j0, if_neg (by decide)]
    have s0 := num_step [a, b, c] (k + 3) 0 0 a rfl (by omega) (by omega)
    have e0 : ((0 : Nat) : Int) = 0 := rfl
    rw [e0] at s0
    rw [s0]
    by_cases ha : isD a = true
    · have la := isD_lt ha
      rw [if_pos ha, num_step [a, b, c] (k + 2) 1 _ b rfl (by omega) (by omega)]
      by_cases hb : isD b = true
      · have lb := isD_lt hb
        rw [if_pos hb, num_step [a, b, c] (k + 1) 2 _ c rfl (by omega) (by omega)]
        by_cases hc : isD c = true
        · have lc := isD_lt hc
          rw [if_pos hc, broadsheetref03_Number.l0, if_neg (by rw [mk_size]; simp), if_neg (by omega), if_pos ⟨ha, hb, hc⟩]
          congr 2
          omega
        · rw [if_neg hc, if_neg (fun e => hc e.2.2)]
      · rw [if_neg hb, if_neg (fun e => hb e.2.1)]
    · rw [if_neg ha, if_neg (fun e => ha e.1)]
theorem u8_of {c : UInt8} {n : Nat} (h : c.toNat = n) : c = UInt8.ofNat n := by
  have := (u8_eq c n (by have := c.toNat_lt; omega)).1 h
  exact this
theorem num3_of {a b c : UInt8} {n : Int} (h : num3 a b c = n) (hn : n ∈ sts) : [a, b, c] = dig3 n.toNat := by
  have hb := sts_bd n hn
  unfold num3 at h
  split at h
  · omega
  · split at h
    · rename_i hd
      obtain ⟨h1, h2, h3⟩ := hd
      have la := isD_lt h1
      have lb := isD_lt h2
      have lc := isD_lt h3
      unfold dig3
      rw [← u8_of (c := a) (by omega), ← u8_of (c := b) (by omega), ← u8_of (c := c) (by omega)]
    · omega
/-- The document's look at a first line. -/
def lookS (l : L) : Int := if 13 ≤ l.length ∧ l.take 9 = verL ∧ (l.drop 12).head? = some 32 then (match (l.drop 9).take 3 with
  | [a, b, c] => if reasonS (num3 a b c) ≠ [] ∧ l.drop 13 = reasonS (num3 a b c) then num3 a b c else 0
  | _ => 0) else 0
theorem look_sts : ∀ n ∈ sts, lookS (firstL n) = n := by decide +kernel
theorem look_eq (l : L) : lookS l = statusS l := by
  rcases status_cases l with ⟨n, hn, rfl, e2⟩ | ⟨hno, e2⟩
  · rw [e2]
    exact look_sts n hn
  · rw [e2]
    unfold lookS
    split
    · rename_i hc
      obtain ⟨h1, h2, h3⟩ := hc
      split
      · rename_i a b c e3
        split
        · rename_i hr
          exfalso
          have hin := reason_in hr.1
          refine hno _ hin ?_
          have e4 := num3_of rfl hin
          have e5 : l = l.take 9 ++ ((l.drop 9).take 3 ++ (l.drop 12)) := by
            have a1 := (List.take_append_drop 9 l).symm
            have a2 := (List.take_append_drop 3 (l.drop 9)).symm
            rw [List.drop_drop] at a2
            rw [← a2]
            exact a1
          have e6 : l.drop 12 = 32 :: l.drop 13 := by
            cases e7 : l.drop 12 with
            | nil => rw [e7] at h3; simp at h3
            | cons x y =>
              rw [e7] at h3
              obtain rfl : x = 32 := by simpa using h3
              have := congrArg List.tail e7
              rw [List.tail_drop] at this
              rw [this]
              rfl
          rw [e5, h2, e3, e6, hr.2, e4]
          unfold firstL
          simp
        · rfl
      · rfl
    · rfl
theorem rpj2 (n : Int) (a : List (L × L)) (p : L × L) (bd : L) (k : Nat) (hs : Short (a ++ [p])) (hb : bd.length ≤ 1000000) (hp : p.1 = clenL ∧ p.2 = Mn.dec (bd.length : Int)) (hk : 1000000 ≤ k) :
    broadsheetref21_Parse.j2 k (mk bd) (pairsB (a ++ [p])) (a.length : Int) false n (pairsB (a ++ [p])) (mk bd) = some (txt4 (if (get (a ++ [p]) clenL).2 = 1 ∧ bd.length ≤ 100000 then (n, a, bd, 0) else zr 190)) := by
  obtain ⟨k, rfl⟩ : ∃ k', k = k' + 1 := ⟨k - 1, by omega⟩
  have hl : low clenL = clenL := by decide +kernel
  have hg := get_snoc a p
  rw [hp.1, hl, if_pos rfl] at hg
  rw [broadsheetref21_Parse.j2, if_neg (by decide), if_pos (by omega), if_pos (by rw [pairsB_len, List.length_append, List.length_singleton]; omega), Int.toNat_natCast, pairsB_app, List.take_left' (pairsB_len a)]
  simp only [Option.bind_some]
  have hs2 := short_cut hs
  rw [rlensF k hs2 (by omega), Option.bind_some, mk_size]
  simp only
  have hnn : 0 ≤ (get a clenL).2 := by unfold get; simp
  by_cases h1 : (get a clenL).2 > 0
  · rw [if_pos h1, if_neg (fun e => by omega)]
    rfl
  · rw [if_neg h1]
    by_cases h2 : (bd.length : Int) > 100000
    · rw [if_pos h2, if_neg (fun e => by omega)]
      rfl
    · rw [if_neg h2, if_pos ⟨by omega, by omega⟩]
      rfl
theorem rpj2t (n : Int) (h : List S41) (i : Int) (bd : L) (k : Nat) (hk : 1 ≤ k) : broadsheetref21_Parse.j2 k (mk bd) h i true n h (mk bd) = some (txt4 (zr 190)) := by
  obtain ⟨k, rfl⟩ : ∃ k', k = k' + 1 := ⟨k - 1, by omega⟩
  rw [broadsheetref21_Parse.j2, if_pos rfl]
  rfl
theorem rpjP1 (n : Int) (r : L) (k : Nat) (hr : r.length ≤ 30000) (hk : 2000000 ≤ k) : broadsheetref21_Parse.j1 k (mk r) n false = some (txt4 (behind n r)) := by
  obtain ⟨k, rfl⟩ : ∃ k', k = k' + 1 := ⟨k - 1, by omega⟩
  have hf := fields_len r
  rw [broadsheetref21_Parse.j1, if_neg (by decide), rparseF r k (by omega) (by omega), Option.bind_some]
  unfold fldB behind
  simp only
  by_cases h1 : (fields r).2.2 = 0
  · have hs := fields_ok_short r hr h1
    have hbd := hf.2.2
    rw [if_pos h1, if_neg (show ¬ (fields r).2.2 ≠ 0 by simpa using h1), rbareF, Option.bind_some, tl_mk]
    clear hf
    generalize (fields r).1 = h at *
    generalize (fields r).2.1 = bd at *
    by_cases h2 : bareI n = true
    · rw [if_pos h2, if_pos h2, rlensF k hs (by omega), Option.bind_some]
      simp only
      by_cases h3 : 0 < (get h clenL).2
      · rw [if_pos h3, if_pos (.inl h3)]
        rfl
      · rw [if_neg h3]
        by_cases h4 : bd = []
        · rw [if_pos h4, if_neg (by simp [h3, h4])]
          rfl
        · rw [if_neg h4, if_pos (.inr h4)]
          rfl
    · rw [if_neg h2, if_neg h2]
      rcases List.eq_nil_or_concat h with rfl | ⟨a, p, rfl⟩
      · have hw : wrap64 (((pairsB []).length : Int) - 1) = -1 := by rw [pairsB_len]; exact wrap_id (by decide) (by decide)
        rw [hw, if_pos (by decide), rpj2t _ _ _ _ _ (by omega), if_neg (fun e => by rw [get_none] at e; cases e.1)]
      · rw [List.concat_eq_append] at *
        have hal : a.length ≤ 15000 := by have := hs.1; rw [List.length_append] at this; omega
        rw [pairsB_len, last_idx a p (by omega), if_neg (by omega), if_pos (by omega), if_pos (by rw [List.length_append, List.length_singleton]; omega), last_at]
        simp only [tl_mk]
        rw [show ([99, 111, 110, 116, 101, 110, 116, 45, 108, 101, 110, 103, 116, 104] : List UInt8) = clenL from rfl, List.getLast?_concat]
        by_cases h5 : p.1 = clenL
        · rw [if_pos h5, mk_size, digF (bd.length : Int) k (by omega) (by omega) (by omega), Option.bind_some, tl_mk]
          by_cases h6 : p.2 = Mn.dec (bd.length : Int)
          · rw [h6, bne_self_eq_false, rpj2 n a p bd k hs (by omega) ⟨h5, h6⟩ (by omega), List.dropLast_concat]
            congr 2
            by_cases h7 : (get (a ++ [p]) clenL).2 = 1 ∧ bd.length ≤ 100000
            · rw [if_pos h7, if_pos ⟨h7.1, by rw [← h5, ← h6], h7.2⟩]
            · rw [if_neg h7, if_neg (fun e => h7 ⟨e.1, e.2.2⟩)]
          · have hb2 : (p.2 != Mn.dec (bd.length : Int)) = true := by simpa using h6
            rw [hb2, rpj2t _ _ _ _ _ (by omega), if_neg (fun e => h6 (by have := Option.some.inj e.2.1; rw [this]))]
        · rw [if_neg h5, rpj2t _ _ _ _ _ (by omega), if_neg (fun e => h5 (by have := Option.some.inj e.2.1; rw [this]))]
  · rw [if_neg h1, if_pos h1]
    rfl
theorem rpjt (x : ByteArray) (n : Int) (k : Nat) (hk : 1 ≤ k) : broadsheetref21_Parse.j1 k x n true = some (txt4 (zr 200)) := by
  obtain ⟨k, rfl⟩ : ∃ k', k = k' + 1 := ⟨k - 1, by omega⟩
  rw [broadsheetref21_Parse.j1, if_pos rfl]
  rfl
theorem rpj0t (x y : ByteArray) (k : Nat) (hk : 1 ≤ k) : broadsheetref21_Parse.j0 k x y true = some (txt4 (zr 200)) := by
  obtain ⟨k, rfl⟩ : ∃ k', k = k' + 1 := ⟨k - 1, by omega⟩
  rw [broadsheetref21_Parse.j0, if_pos rfl]
  rfl
theorem rparseRF (s : L) (k : Nat) (hs : s.length ≤ 30000) (hk : 3000000 ≤ k) : broadsheetref21_Parse.f k (mk s) = some (txt4 (parseR s)) := by
  obtain ⟨k, rfl⟩ : ∃ k', k = k' + 1 := ⟨k - 1, by omega⟩
  unfold broadsheetref21_Parse.f parseR
  rw [rLineF s _ (by omega) (by omega), Option.bind_some]
  cases e : line s with
  | none =>
    simp only
    rw [if_neg (by decide)]
    exact rpj0t _ _ _ (by omega)
  | some q =>
    obtain ⟨l, r⟩ := q
    have hll := congrArg List.length (line_len s _ e)
    simp only [List.length_append, List.length_cons] at hll
    simp only [if_true]
    rw [← look_eq, mk_size]
    unfold lookS
    by_cases h1 : l.length < 13
    · rw [if_pos (by omega), if_neg (show ¬ (13 ≤ l.length ∧ l.take 9 = verL ∧ (l.drop 12).head? = some 32) from fun e => by omega), if_pos rfl]
      exact rpj0t _ _ _ (by omega)
    rw [if_neg (by omega), if_pos (by decide), if_pos (by omega), ext_to, tl_mk, show ([72, 84, 84, 80, 47, 49, 46, 49, 32] : List UInt8) = verL from rfl]
    by_cases h2 : l.take 9 = verL
    · rw [if_pos h2, if_pos (by omega)]
      obtain ⟨b, f1, f2⟩ := mk_bt l 12 (by omega)
      have f2' : bt (mk l) 12 = b.toNat := f2
      rw [f2']
      have h32 : ((b.toNat : Int) = 32) ↔ b = 32 := u8i b 32 (by omega)
      by_cases h3 : b = 32
      · have hb0 : ((b.toNat : Int) != 32) = false := by simp [h32.2 h3]
        rw [hb0, if_pos (show 13 ≤ l.length ∧ l.take 9 = verL ∧ (l.drop 12).head? = some 32 from ⟨by omega, h2, by rw [f1, h3]; rfl⟩), broadsheetref21_Parse.j0, if_neg (by decide), if_pos (by decide), if_pos (by rw [mk_size]; omega), ext_mk]
        have hx3 : ((l.drop 9).take (12 - 9)).length = 3 := by rw [List.length_take, List.length_drop]; omega
        have hx : ∃ x y z, (l.drop 9).take (12 - 9) = [x, y, z] := by
          match (l.drop 9).take (12 - 9), hx3 with
          | [x, y, z], _ => exact ⟨x, y, z, rfl⟩
        obtain ⟨x, y, z, hxyz⟩ := hx
        rw [hxyz, numF x y z k (by omega), Option.bind_some, rreasonF, Option.bind_some, tl_mk]
        simp only
        by_cases h4 : reasonS (num3 x y z) = []
        · have hz : (if reasonS (num3 x y z) ≠ [] ∧ l.drop 13 = reasonS (num3 x y z) then num3 x y z else 0) = 0 := if_neg (fun e => e.1 h4)
          rw [if_pos h4, hz, if_pos rfl]
          exact rpjt _ _ _ (by omega)
        · rw [if_neg h4, if_pos (by rw [mk_size]; omega), Option.bind_some, tl_mk, ext_from, tl_mk]
          by_cases h5 : l.drop 13 = reasonS (num3 x y z)
          · have hn0 := sts_bd _ (reason_in h4)
            have hz : (if reasonS (num3 x y z) ≠ [] ∧ l.drop 13 = reasonS (num3 x y z) then num3 x y z else 0) = num3 x y z := if_pos ⟨h4, h5⟩
            rw [hz, h5, bne_self_eq_false, if_neg (by omega)]
            exact rpjP1 _ r k (by omega) (by omega)
          · have hb5 : (l.drop 13 != reasonS (num3 x y z)) = true := by simpa using h5
            have hz : (if reasonS (num3 x y z) ≠ [] ∧ l.drop 13 = reasonS (num3 x y z) then num3 x y z else 0) = 0 := if_neg (fun e => h5 e.2)
            rw [hb5, hz, if_pos rfl]
            exact rpjt _ _ _ (by omega)
      · have hb1 : ((b.toNat : Int) != 32) = true := by simp; exact fun e => h3 (h32.1 e)
        rw [hb1, if_neg (show ¬ (13 ≤ l.length ∧ l.take 9 = verL ∧ (l.drop 12).head? = some 32) from fun e => h3 (by have := e.2.2; rw [f1] at this; simpa using this)), if_pos rfl]
        exact rpj0t _ _ _ (by omega)
    · rw [if_neg h2, if_neg (show ¬ (13 ≤ l.length ∧ l.take 9 = verL ∧ (l.drop 12).head? = some 32) from fun e => h2 e.2.1), if_pos rfl]
      exact rpj0t _ _ _ (by omega)
theorem parse_short (s : L) (hs : s.length ≤ 30000) : (parseR s).2.1.length ≤ 30000 := by
  unfold parseR
  cases e : line s with
  | none => simp [zr]
  | some q =>
    obtain ⟨l, r⟩ := q
    have hll := congrArg List.length (line_len s _ e)
    simp only [List.length_append, List.length_cons] at hll
    have hf := fields_len r
    simp only
    split
    · simp [zr]
    · unfold behind
      split
      · simp [zr]
      · split
        · split
          · simp [zr]
          · simp only; omega
        · split
          · simp only [List.length_dropLast]; omega
          · simp [zr]
theorem resp_same (n : Int) (l : List (L × L)) (b : ByteArray) (k : Nat) (hl : l.length ≤ 100000) (hk : 100000 < k) : broadsheetref21_Same.f k n (pairsB l) b n (pairsB l) b = some true := by
  unfold broadsheetref21_Same.f
  rw [if_pos rfl, if_pos rfl, rsameF _ k (by omega) (by omega)]
  rfl
def wt : List (L × L) → Nat
  | [] => 0
  | p :: r => p.1.length + p.2.length + 1 + wt r
theorem wt_len (l : List (L × L)) : l.length ≤ wt l := by
  induction l with
  | nil => simp
  | cons p r ih => rw [List.length_cons, wt]; omega
theorem wt_mem (l : List (L × L)) : ∀ p ∈ l, p.1.length + p.2.length ≤ wt l := by
  induction l with
  | nil => intro p hp; simp at hp
  | cons q r ih =>
    intro p hp
    rw [wt]
    rcases List.mem_cons.1 hp with rfl | hp
    · omega
    · have := ih p hp; omega
theorem few_l0 (n0 : Int) (b : ByteArray) (l : List (L × L)) (hl : l.length ≤ 1000000000000000000) (hp : ∀ p ∈ l, p.1.length ≤ 140737488355328 ∧ p.2.length ≤ 140737488355328) : ∀ (d k i n : Nat), i + d = l.length → d < k → n ≤ 300000000000000 →
    broadsheetlaw21_few.l0 k (n : Int) (i : Int) n0 (pairsB l) b = some (decide (n + wt (l.drop i) ≤ 3000)) := by
  intro d
  induction d with
  | zero =>
    intro k i n hi hk hn
    obtain ⟨k, rfl⟩ : ∃ k', k = k' + 1 := ⟨k - 1, by omega⟩
    rw [List.drop_eq_nil_of_le (by omega), broadsheetlaw21_few.l0, if_neg (by rw [pairsB_len]; omega)]
    congr 1
    exact decide_eq_decide.2 (by rw [wt]; omega)
  | succ d ih =>
    intro k i n hi hk hn
    obtain ⟨k, rfl⟩ : ∃ k', k = k' + 1 := ⟨k - 1, by omega⟩
    have hlt : i < l.length := by omega
    obtain ⟨h1, h2⟩ := hp l[i] (List.getElem_mem hlt)
    have hw : wt (l.drop i) = l[i].1.length + l[i].2.length + 1 + wt (l.drop (i + 1)) := by rw [List.drop_eq_getElem_cons hlt, wt]
    rw [hw, broadsheetlaw21_few.l0, if_pos (by rw [pairsB_len]; omega)]
    by_cases h : (n : Int) ≤ 3000
    · rw [if_pos h, if_pos (by omega), rd_pairs l i l[i] (List.getElem?_eq_getElem hlt)]
      simp only [mk_size]
      generalize l[i].1.length = x at *
      generalize l[i].2.length = y at *
      rw [wrap_id (x := (n : Int) + (x : Int)) (by omega) (by omega), wrap_id (x := (n : Int) + (x : Int) + (y : Int)) (by omega) (by omega), wrap_id (x := (n : Int) + (x : Int) + (y : Int) + 1) (by omega) (by omega), wrap_id (x := (i : Int) + 1) (by omega) (by omega)]
      have := ih k (i + 1) (n + x + y + 1) (by omega) (by omega) (by omega)
      rw [show (n : Int) + (x : Int) + (y : Int) + 1 = ((n + x + y + 1 : Nat) : Int) by omega, show (i : Int) + 1 = ((i + 1 : Nat) : Int) by omega, this]
      congr 1
      exact decide_eq_decide.2 (by omega)
    · rw [if_neg h]
      congr 1
      exact decide_eq_decide.2 (by omega)
theorem fewF (n0 : Int) (l : List (L × L)) (b : L) (k : Nat) (hl : l.length ≤ 1000000000000000000) (hp : ∀ p ∈ l, p.1.length ≤ 140737488355328 ∧ p.2.length ≤ 140737488355328) (hb : b.length ≤ 140737488355328) (hk : l.length < k) :
    broadsheetlaw21_few.f k n0 (pairsB l) (mk b) = some (decide (b.length + wt l ≤ 3000)) := by
  have := few_l0 n0 (mk b) l hl hp l.length k 0 b.length (by omega) hk (by omega)
  unfold broadsheetlaw21_few.f
  rw [mk_size]
  exact this
theorem few_short {l : List (L × L)} {b : L} (h : b.length + wt l ≤ 3000) : Short l ∧ b.length ≤ 3000 := by
  have h1 := wt_len l
  exact ⟨⟨by omega, fun p hp => by have := wt_mem l p hp; omega⟩, by omega⟩
theorem pairs_self (l : List S41) : pairsB (l.map fun x => (x.f0.data.toList, x.f1.data.toList)) = l := by
  unfold pairsB
  rw [List.map_map]
  conv => rhs; rw [← List.map_id l]
  refine List.map_congr_left fun x _ => ?_
  simp only [Function.comp, mk_self, id]
theorem bounds_self {l : List S41} (h : ∀ x ∈ l, x.f0.size ≤ 140737488355328 ∧ x.f1.size ≤ 140737488355328) : ∀ p ∈ l.map (fun x => (x.f0.data.toList, x.f1.data.toList)), p.1.length ≤ 140737488355328 ∧ p.2.length ≤ 140737488355328 := by
  intro p hp
  obtain ⟨x, hx, rfl⟩ := List.mem_map.1 hp
  have := h x hx
  rw [Lib.size_eq, Lib.size_eq] at this
  exact this
theorem printR_len2 {n : Int} {l : List (L × L)} {b : L} (hb : b.length ≤ 3900) : (printR n l b).1.length ≤ 20000 := by
  have h1 := printS_len (withLen n l b)
  unfold printR
  split
  · simp
  · rename_i h0
    split
    · simp
    · split
      · simp
      · split
        · have hn := first_len (reason_in (fun e => h0 (.inl e)))
          simp only [List.length_append, List.length_cons, List.length_nil]
          omega
        · simp
def awS : L := [72, 84, 84, 80, 47, 49, 46, 49, 32, 52, 48, 52, 32, 78, 111, 116, 32, 70, 111, 117, 110, 100, 13, 10, 67, 111, 110, 116, 101, 110, 116, 45, 76, 101, 110, 103, 116, 104, 58, 32, 48, 13, 10, 13, 10]
theorem short_nil : Short [] := ⟨by simp, by simp⟩
theorem dec0 : Mn.dec (([] : L).length : Int) = [48] := by
  unfold Mn.dec
  rw [Lib.decDigits, dif_pos (by simp)]
  rfl
theorem aw_print : printR 404 [] [] = (awS, 0) := by
  have e : withLen 404 [] [] = [(CLenL, [48])] := by
    unfold withLen
    rw [if_neg (by decide), dec0]
    rfl
  unfold printR
  rw [e, if_neg (by decide +kernel), if_neg (by decide), if_neg (by decide +kernel)]
  have e2 : printS [(CLenL, [48])] = ([67, 111, 110, 116, 101, 110, 116, 45, 76, 101, 110, 103, 116, 104, 58, 32, 48, 13, 10, 13, 10], 0) := by decide +kernel
  rw [e2, if_pos rfl]
  decide +kernel
theorem aw_parse : parseR awS = (404, [], [], 0) := by
  have e1 : line awS = some (firstL 404, [67, 111, 110, 116, 101, 110, 116, 45, 76, 101, 110, 103, 116, 104, 58, 32, 48, 13, 10, 13, 10]) := by decide +kernel
  have e2 : fields [67, 111, 110, 116, 101, 110, 116, 45, 76, 101, 110, 103, 116, 104, 58, 32, 48, 13, 10, 13, 10] = ([(clenL, [48])], [], 0) := by decide +kernel
  unfold parseR
  rw [e1]
  simp only
  rw [status_of (show (404 : Int) ∈ sts by decide), if_neg (by decide)]
  unfold behind
  rw [e2]
  simp only
  rw [if_neg (by decide), if_neg (by decide), dec0, if_pos (by decide +kernel)]
  rfl
theorem aw_bad : printR 1 [] [] = ([], 1) := by
  unfold printR
  rw [if_pos (.inl (by decide +kernel))]
theorem awake21 (k : Nat) (hk : 4000000 ≤ k) : broadsheetlaw21_awake.f k = some true := by
  unfold broadsheetlaw21_awake.f
  have h1 := printF 404 [] [] k (by omega) (by omega) short_nil (by simp) (by omega)
  have h2 := printF 1 [] [] k (by omega) (by omega) short_nil (by simp) (by omega)
  have e0 : (pairsB [] : List S41) = [] := rfl
  rw [e0, aw_print] at h1
  rw [e0, aw_bad] at h2
  rw [show (⟨#[]⟩ : ByteArray) = mk [] from rfl, h1, h2]
  simp only [Option.bind_some]
  rw [parseRF awS k (by decide) (by omega), aw_parse]
  simp only [Option.bind_some, tl_mk, txt4]
  rfl
theorem rsp_prints_all (n : Int) (l : List S41) (b : ByteArray) (hn1 : -9223372036854775808 ≤ n) (hn2 : n ≤ 9223372036854775807) (hb : b.size ≤ 140737488355328) (hl : l.length ≤ 1000000000000000000) (hp : ∀ x ∈ l, x.f0.size ≤ 140737488355328 ∧ x.f1.size ≤ 140737488355328) :
    ∃ k, broadsheetlaw21_ResponsePrints.f k n l b = some true := by
  refine ⟨l.length + 5000000, ?_⟩
  have hp' := bounds_self hp
  have hl' : (l.map fun x => (x.f0.data.toList, x.f1.data.toList)).length = l.length := List.length_map _
  rw [← pairs_self l, ← mk_self b, pairsB_len]
  rw [← hl'] at hl
  rw [Lib.size_eq] at hb
  generalize (l.map fun x => (x.f0.data.toList, x.f1.data.toList)) = q at *
  generalize b.data.toList = c at *
  unfold broadsheetlaw21_ResponsePrints.f
  rw [fewF n q c _ hl hp' hb (by omega), Option.bind_some]
  by_cases h : c.length + wt q ≤ 3000
  · obtain ⟨h1, h2⟩ := few_short h
    rw [if_pos (decide_eq_true h), printF n q c _ hn1 hn2 h1 (by omega) (by omega), Option.bind_some, rprF n q c _ h1 (by omega) (by omega), Option.bind_some, awake21 _ (by omega), Option.bind_some, if_pos rfl, if_pos rfl, if_pos rfl, reasonF n hn1 hn2, Option.bind_some, rreasonF, Option.bind_some, beq_self_eq_true]
  · rw [if_neg (by simpa using h), awake21 _ (by omega)]
    rfl
theorem all_l0 (q : List (L × L)) (c : L) (hs : Short q) (hc : c.length ≤ 3000) : ∀ (d k m : Nat), 600 ≤ m + d → d + 5000000 < k → m ≤ 1000 → broadsheetlaw21_ResponseAll.l0 k (pairsB q) (mk c) (m : Int) = some true := by
  intro d
  induction d with
  | zero =>
    intro k m hm hk h1
    obtain ⟨k, rfl⟩ : ∃ k', k = k' + 1 := ⟨k - 1, by omega⟩
    rw [broadsheetlaw21_ResponseAll.l0, if_neg (by omega), awake21 _ (by omega)]
    rfl
  | succ d ih =>
    intro k m hm hk h1
    obtain ⟨k, rfl⟩ : ∃ k', k = k' + 1 := ⟨k - 1, by omega⟩
    rw [broadsheetlaw21_ResponseAll.l0]
    by_cases h : (m : Int) < 600
    · have hlen := printR_len2 (n := (m : Int)) (l := q) (b := c) (by omega)
      have hsh := parse_short (printR (m : Int) q c).1 (by omega)
      rw [if_pos h, printF _ q c _ (by omega) (by omega) hs (by omega) (by omega), Option.bind_some, rprF _ q c _ hs (by omega) (by omega), Option.bind_some]
      simp only
      rw [parseRF _ _ (by omega) (by omega), Option.bind_some, rparseRF _ _ (by omega) (by omega), Option.bind_some]
      simp only [txt4, if_true]
      rw [resp_same _ _ _ _ (by omega) (by omega), Option.bind_some, if_pos rfl, reasonF _ (by omega) (by omega), Option.bind_some, rreasonF, Option.bind_some, if_pos rfl, wrap_id (by omega) (by omega)]
      exact ih k (m + 7) (by omega) (by omega) (by omega)
    · rw [if_neg h, awake21 _ (by omega)]
      rfl
theorem rsp_all_all (l : List S41) (b : ByteArray) (a : Int) (hb : b.size ≤ 140737488355328) (hl : l.length ≤ 1000000000000000000) (hp : ∀ x ∈ l, x.f0.size ≤ 140737488355328 ∧ x.f1.size ≤ 140737488355328) (ha : 0 ≤ a ∧ a ≤ 255) :
    ∃ k, broadsheetlaw21_ResponseAll.f k l b a = some true := by
  refine ⟨l.length + 6000000, ?_⟩
  have hp' := bounds_self hp
  have hl' : (l.map fun x => (x.f0.data.toList, x.f1.data.toList)).length = l.length := List.length_map _
  rw [← pairs_self l, ← mk_self b, pairsB_len]
  rw [← hl'] at hl
  rw [Lib.size_eq] at hb
  generalize (l.map fun x => (x.f0.data.toList, x.f1.data.toList)) = q at *
  generalize b.data.toList = c at *
  unfold broadsheetlaw21_ResponseAll.f
  rw [fewF 0 q c _ hl hp' hb (by omega), Option.bind_some]
  by_cases h : c.length + wt q ≤ 3000
  · obtain ⟨h1, h2⟩ := few_short h
    obtain ⟨m, rfl⟩ : ∃ m : Nat, a = (m : Int) := ⟨a.toNat, by omega⟩
    rw [if_pos (decide_eq_true h), wrap_id (by omega) (by omega)]
    exact all_l0 q c h1 h2 600 _ m (by omega) (by omega) (by omega)
  · rw [if_neg (by simpa using h), awake21 _ (by omega)]
    rfl
end Go.Proofs.YtaopopnlnohnpaaGreatDoor.Sp
/- CardW -/
namespace Go.Proofs.YtaopopnlnohnpaaGreatDoor.Cg
open Go.RowKit Go.Proofs.YtaopopnlnohnpaaGreatDoor.P Go.Proofs.YtaopopnlnohnpaaGreatDoorW.PrintWords Go.Proofs.YtaopopnlnohnpaaGreatDoorW.PrintLast Go.Proofs.YtaopopnlnohnpaaGreatDoor.O
open Go.ChangeShapes Go.WideShapes Go.Deep
set_option linter.unusedVariables false
/-- The plain wrap, with a condition of one's own and the world's shape. -/
theorem wrapS {H : Type} {enc : TypeId × Value → H} {a : Assume} {C : Checked} {os : Os} {f : FuncId} {fn : Func} {s : ChangeSpec} {conds : List PathCond} {apart fresh handsOn again : Bool} {X : World → Array Value → Prop}
    (hX : ∀ (w w' : World) (args : Array Value), w.heap = w'.heap → X w args → X w' args)
    (own : ownKnob C.prog.godebug = none) (started : os.Started) (noInit : C.prog.inits.idxOf? f = none) (hfn : C.prog.funcs[f]? = some fn)
    (witness : ∃ (w : World) (tape : Tape) (i : Input), w.os = os ∧ (w.forCall tape i).Shaped C.prog ∧ i.vars = [] ∧ Input.okWide C.prog (w.forCall tape i) .any w.heap.size f i ∧
      ((s.pre enc C.prog fn conds apart (w.forCall tape i).memory i.args ∧ X (w.forCall tape i).memory i.args) ∧ sizedMet enc C.prog fn (OpenSpec.ofChange s) apart (w.forCall tape i).memory i.args) ∧ a.holds C.prog (lone (Frame.enter C.prog f i.args .normal) [] (w.forCall tape i)))
    (contract : ∀ (W : World) (base : Nat) (args : Array Value) (ds gs : List (DataW H)) (before : List MemPlace),
      (∀ (j : Nat) t v, fn.params[j]? = some t → args[j]? = some v → Value.okWide C.prog W .any base t v) →
      DataW.Whole enc C.prog fn.params.toList s.vars apart W args.toList ds gs before →
      (DataW.weightsEach C.prog (fn.params.toList ++ s.plain.varTypes C.prog) (ds ++ gs)).all (· ≤ reachBytes) = true → X W args → W.ShapedOpen C.prog →
      Calls C.prog f args W fun e W' => ∃ v, e = .returned v ∧ s.post enc C.prog fn apart fresh handsOn again W args v W') :
    ReturnsInHanded a C os f .any (fun w args => (s.pre enc C.prog fn conds apart w args ∧ X w args) ∧ sizedMet enc C.prog fn (OpenSpec.ofChange s) apart w args) (s.post enc C.prog fn apart fresh handsOn again) := by
  refine returnsInHanded_of_calls own started noInit witness ?_
  intro w tape i _ hsh _ hok hpre _
  obtain ⟨_, _, _, fn', hfn', _, _, _, _, hval⟩ := hok
  obtain rfl : fn' = fn := Option.some.inj (hfn'.symm.trans hfn)
  obtain ⟨⟨⟨ds, gs, before, hw, _⟩, hx⟩, hz⟩ := hpre
  refine (contract (w.forCall tape i) w.heap.size i.args ds gs before hval (DataW.Whole.of_heap (w' := w.forCall tape i) (by rfl) hw) (hz.weights hw) (hX _ _ _ (by rfl) hx) hsh).mono fun e W' ⟨v, he, hp⟩ => ?_
  subst he
  exact ChangeSpec.post_blind hp
theorem var_iface {W : World} {n nm : String} {d : DataW Unit} {g t : Nat} {ms : Array (String × TypeId)} (h : Lib.VarReads Tryz.prog W n (.iface nm d)) (hg : Tryz.prog.globalNamed n = some g) (ht : (Tryz.prog.globals[g]?).map (·.type) = some t) (hi : Tryz.prog.underlying t = some (.interface ms)) :
    ∃ t p, W.var? Tryz.prog n = some #[.iface t p] := by
  obtain ⟨g', t', cs, fuel, p, hg', ht', hv, hd⟩ := h
  obtain rfl := Option.some.inj (hg.symm.trans hg')
  obtain rfl := Option.some.inj (ht.symm.trans ht')
  obtain ⟨_, u, v, e, _, _⟩ := iface_of_trod hi hd
  refine ⟨u, v, ?_⟩
  rw [hv]
  cases cs
  simp only at e
  rw [e]
theorem mem_weightsAll {H : Type} {P : Program} {e : TypeId} : ∀ {ds : List (DataW H)} {d : DataW H}, d ∈ ds → ∀ n ∈ d.weights P e, n ∈ DataW.weightsAll P e ds
  | d0 :: r, d, hd, n, hn => by
    simp only [DataW.weightsAll, List.mem_append]
    rcases List.mem_cons.1 hd with rfl | hd
    · exact Or.inl hn
    · exact Or.inr (mem_weightsAll hd n hn)
  | [], _, hd, _, _ => by simp at hd
theorem pairs_at {H : Type} {enc : TypeId × Value → H} {W : World} {v : Value} {d : DataW H} {p : List MemPlace} {fuel : Nat} (hf : DataW.trod enc Tryz.prog W 0 (fun _ => true) true fuel 22 [v] = some (d, p))
    (hb : ∀ n ∈ d.weights Tryz.prog 22, n ≤ reachBytes) :
    ∃ A c l, v = .slice A l.length c ∧ l.length ≤ c ∧ Kd.C k41 W A l.length l ∧ l.length ≤ 1000000000000000000 ∧ ∀ x ∈ l, x.f0.size ≤ 140737488355328 ∧ x.f1.size ≤ 140737488355328 := by
  have hR := reachBytes_lt
  rcases open_slice_pairs Tryz.underlying22 Tryz.underlying41 (by kernel_rfl) rfl rfl (by kernel_rfl) (by kernel_rfl) hf with ⟨hcs, _⟩ | ⟨a', len, cap, m, n, V0, V1, D0, D1, P0, P1, hcs, _, hl, hm, hmm, hx, hi⟩
  · obtain rfl : v = .slice none 0 0 := by simpa using hcs
    exact ⟨none, 0, [], rfl, Nat.le_refl _, ⟨rfl, by simp, fun h => absurd h (by simp)⟩, by simp, by simp⟩
  · obtain rfl : v = .slice (some a') len cap := by simpa using hcs
    have hlm : len ≤ m := by rw [hmm]; split <;> omega
    have hd : d = .slice ((List.range len).map fun i => .agg [D0 i, D1 i]) ((List.range (m - len)).map fun j => .agg [D0 (len + j), D1 (len + j)]) := congrArg Prod.fst hx
    have key : ∀ i, ∃ r : S41, i < len → (r.f0.size ≤ 140737488355328 ∧ r.f1.size ≤ 140737488355328) ∧ ∀ j u, [Value.string r.f0, .string r.f1][j]? = some u → W.cell? (a'.add (i * 2 + j)) = some u := by
      intro i
      by_cases hil : i < len
      · obtain ⟨f0, f1, t0, t1⟩ := hi i (by omega)
        obtain ⟨s0, e0, x0, _⟩ := DataW.trod_string Tryz.underlying9 t0
        obtain ⟨s1, e1, x1, _⟩ := DataW.trod_string Tryz.underlying9 t1
        have g0 : V0 i = .string s0 := by simpa using e0
        have g1 : V1 i = .string s1 := by simpa using e1
        have y0 : D0 i = .lit (.string s0.data.toList) := congrArg Prod.fst x0
        have y1 : D1 i = .lit (.string s1.data.toList) := congrArg Prod.fst x1
        have hw : ∀ n ∈ (DataW.agg [D0 i, D1 i] : DataW H).weights Tryz.prog 41, n ≤ reachBytes := by
          intro n hn
          refine hb n ?_
          rw [hd]
          simp only [DataW.weights, Tryz.underlying22, List.mem_cons, List.mem_append]
          exact Or.inr (Or.inl (mem_weightsAll (List.mem_map.2 ⟨i, List.mem_range.2 hil, rfl⟩) n hn))
        rw [y0, y1] at hw
        simp [DataW.weights, DataW.weightsEach, Tryz.underlying41] at hw
        refine ⟨⟨s0, s1⟩, fun _ => ⟨⟨?_, ?_⟩, fun j u hu => ?_⟩⟩
        · have := hw.1; rw [Lib.size_eq]; simp at this ⊢; omega
        · have := hw.2; rw [Lib.size_eq]; simp at this ⊢; omega
        · have hj : j < 2 := (List.getElem?_eq_some_iff.1 hu).1
          have : j = 0 ∨ j = 1 := by omega
          rcases this with rfl | rfl
          · obtain rfl := Option.some.inj hu
            rw [← g0]; exact f0
          · obtain rfl := Option.some.inj hu
            rw [← g1]; exact f1
      · exact ⟨z41, fun h => absurd h hil⟩
    obtain ⟨f, hf'⟩ := Classical.axiomOfChoice key
    have hlen : ((List.range len).map f).length = len := by simp
    refine ⟨some a', cap, (List.range len).map f, by simp, by simpa using hl, ⟨rfl, ?_, fun _ => ⟨a', rfl, fun j x hx => ?_⟩⟩, ?_, ?_⟩
    · rw [hlen]; unfold maxLen at hm; omega
    · rw [List.getElem?_map] at hx
      obtain ⟨i, hi', rfl⟩ := Option.map_eq_some_iff.1 hx
      have hjl : j < len := by
        have := (List.getElem?_eq_some_iff.1 hi').1
        simpa using this
      have : i = j := by
        rw [List.getElem?_range hjl] at hi'
        exact (Option.some.inj hi').symm
      subst this
      exact ⟨_, rfl, k41_mk _ _, (hf' i hjl).2⟩
    · rw [hlen]
      have := hb ((len + (m - len)) * Tryz.prog.bytesOf 41) (by rw [hd]; simp [DataW.weights, Tryz.underlying22])
      have h2 : len + (m - len) ≤ (len + (m - len)) * Tryz.prog.bytesOf 41 := Nat.le_mul_of_pos_right _ (by rw [show Tryz.prog.bytesOf 41 = 32 by kernel_rfl]; omega)
      omega
    · intro x hx
      obtain ⟨i, hi', rfl⟩ := List.mem_map.1 hx
      exact (hf' i (List.mem_range.1 hi')).1
theorem pairs_of {H : Type} {enc : TypeId × Value → H} {W : World} {v : Value} {d : DataW H} {p : List MemPlace} (h : DataW.Trod enc Tryz.prog W 0 (fun _ => true) true 22 v d p) (hv : ∃ a len cap, v = .slice a len cap)
    (hb : ∀ n ∈ d.weights Tryz.prog 22, n ≤ reachBytes) :
    ∃ A c l, v = .slice A l.length c ∧ l.length ≤ c ∧ Kd.C k41 W A l.length l ∧ l.length ≤ 1000000000000000000 ∧ ∀ x ∈ l, x.f0.size ≤ 140737488355328 ∧ x.f1.size ≤ 140737488355328 := by
  obtain ⟨a, len, cap, rfl⟩ := hv
  obtain ⟨fuel, hf⟩ := h
  exact pairs_at hf hb
set_option maxRecDepth 100000 in
theorem resp_of {H : Type} {enc : TypeId × Value → H} {W : World} {r : Reach} {base : Nat} {v : Value} {d : DataW H} {p : List MemPlace} (h : DataW.Trod enc Tryz.prog W 0 (fun _ => true) true 24 v d p) (hv : Value.okWide Tryz.prog W r base 24 v)
    (hb : ∀ n ∈ d.weights Tryz.prog 24, n ≤ reachBytes) :
    ∃ a A c l b, v = .agg #[.int .i64 a, .slice A (List.length l) c, .string b] ∧ l.length ≤ c ∧ Kd.C k41 W A l.length l ∧ (-9223372036854775808 ≤ a ∧ a ≤ 9223372036854775807) ∧ b.size ≤ 140737488355328 ∧ l.length ≤ 1000000000000000000 ∧ ∀ x ∈ l, x.f0.size ≤ 140737488355328 ∧ x.f1.size ≤ 140737488355328 := by
  have hR := reachBytes_lt
  obtain ⟨v0, v1, v2, ⟨d0, p0⟩, ⟨d1, p1⟩, ⟨d2, p2⟩, n, rfl, rfl, _, h0, h1, h2⟩ := Go.Joins.open_agg3 Tryz.underlying24 (by kernel_rfl) (by kernel_rfl) hv h
  obtain ⟨a, e0, x0, wf⟩ := DataW.trod_int Tryz.underlying3 h0
  obtain ⟨b, e2, x2, _⟩ := DataW.trod_string Tryz.underlying9 h2
  have g0 : v0 = .int .i64 a := by simpa using e0
  have g2 : v2 = .string b := by simpa using e2
  have y2 : d2 = .lit (.string b.data.toList) := congrArg Prod.fst x2
  have hw1 : ∀ n ∈ d1.weights Tryz.prog 22, n ≤ reachBytes := fun n hn => hb n (by
    simp [DataW.weights, DataW.weightsEach, Tryz.underlying24]
    exact Or.inr (Or.inl hn))
  have hw2 : b.size ≤ reachBytes := hb _ (by
    simp [DataW.weights, DataW.weightsEach, Tryz.underlying24, y2])
  obtain ⟨A, c, l, g1, q1, q2, q3, q4⟩ := pairs_at h1 hw1
  subst g0 g1 g2
  refine ⟨a, A, c, l, b, rfl, q1, q2, ?_, by omega, q3, q4⟩
  have hm : IntKind.i64.min = -9223372036854775808 := by decide
  simpa [Lit.wf, hm] using wf
abbrev laidL : List (String × DataW Unit) := Rows.responsePrintsRow.laid
theorem glob_of {W : World} (h : laidMetH Tryz.prog laidL W) (hsh : W.ShapedOpen Tryz.prog) : Glob W := by
  rw [MakeChecks.laidMetH_plain _ _ _ (by kernel_rfl)] at h
  refine ⟨?_, ?_, ?_, ?_⟩
  · obtain ⟨g', t', cs, fuel, p, hg', ht', hv, hd⟩ := Lib.laidMet.reads h (n := "internal/strconv.uint64pow10") (d := Rows.laid_internal_strconv_uint64pow10) (.tail _ (.tail _ (.head _)))
    obtain rfl := Option.some.inj (gpow.symm.trans hg')
    obtain rfl := Option.some.inj ((show (Tryz.prog.globals[1]?).map (·.type) = some 109 by kernel_rfl).symm.trans ht')
    have hd' : DataW.trod (fun _ => ()) Tryz.prog W 0 (fun _ => true) false fuel 109 cs.toList = some (Lib.tabData .u64 (Lib.pow10Tab), p) := hd
    unfold Lib.TabIs
    rw [hv, ← Lib.cells_of_tab Tryz.underlying109 Tryz.underlying84 (by kernel_rfl) (by kernel_rfl) hd']
  · have hb : ((begin Tryz.prog (fun _ _ => 0) default).world.heap[0]?).bind Obj.row? = some (#[.int .i64 0], 3) := by kernel_rfl
    obtain ⟨m, hm⟩ := cell_of_shapedOpen_int hsh (of_decide_eq_true (by kernel_rfl)) hb rfl (by kernel_rfl) (by kernel_rfl) Tryz.underlying3
    obtain ⟨cs, hh, hs, _⟩ := hsh.1 _ _ _ (of_decide_eq_true (by kernel_rfl)) hb
    refine ⟨m, ?_⟩
    have h1 : 0 < cs.size := by rw [hs]; decide
    have hc : cs[0] = .int .i64 m := by
      have : W.cell? ⟨0, 0, none⟩ = some cs[0] := by simp [World.cell?, hh, h1]
      exact Option.some.inj (this.symm.trans hm)
    unfold World.var?
    rw [gmlen]
    simp only [Option.bind_some, hh]
    congr 1
    apply Array.ext
    · rw [hs]; rfl
    · intro i hi1 hi2
      have : i = 0 := by rw [hs] at hi1; simp at hi1; exact hi1
      subst this
      rw [hc]; rfl
  · exact var_iface (Lib.laidMet.reads h (n := "strconv.ErrSyntax") (d := Rows.laid_strconv_ErrSyntax) (.tail _ (.tail _ (.tail _ (.tail _ (.tail _ (.head _))))))) gsyn (by kernel_rfl) Tryz.underlying60
  · exact var_iface (Lib.laidMet.reads h (n := "strconv.ErrRange") (d := Rows.laid_strconv_ErrRange) (.tail _ (.tail _ (.tail _ (.tail _ (.head _)))))) grng (by kernel_rfl) Tryz.underlying60
end Go.Proofs.YtaopopnlnohnpaaGreatDoor.Cg
