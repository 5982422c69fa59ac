/- Texts of this seat, joined: lemmas and walks that its statements' proofs use. -/
import Derived.Test.YtmgabnodachboaaDoorK4
import Derived.Test.YtmgabnodachboaaDoorK3
/- ManC -/
namespace Go.Proofs.YtmgabnodachboaaDoor.Mn
open Go.RowKit Go.Proofs.YtmgabnodachboaaDoor.P Go.Proofs.YtmgabnodachboaaDoorW.PrintWords Go.Proofs.YtmgabnodachboaaDoorW.PrintLast Go.Proofs.YtmgabnodachboaaDoor.O Go.Proofs.YtmgabnodachboaaDoor.Ad
set_option linter.unusedVariables false
set_option linter.unusedSimpArgs false

theorem ref_name_l0 (s : ByteArray) (hs : s.size ≤ 1000000) : ∀ (d k i : Nat), i + d = s.size → d < k → broadsheetref01_Name.l0 k s i = some ((s.data.toList.drop i).all chOk) := by
  intro d
  induction d with
  | zero =>
    intro k i hi hk
    obtain ⟨k, rfl⟩ : ∃ k', k = k' + 1 := ⟨k - 1, by omega⟩
    rw [broadsheetref01_Name.l0, if_neg (by omega), List.drop_eq_nil_of_le (by rw [← Lib.size_eq]; omega)]
    rfl
  | succ d ih =>
    intro k i hi hk
    obtain ⟨k, rfl⟩ : ∃ k', k = k' + 1 := ⟨k - 1, by omega⟩
    have hI := ih k (i + 1) (by omega) (by omega)
    have hw : wrap64 ((i : Int) + 1) = ((i + 1 : Nat) : Int) := by rw [wrap_id (by omega) (by omega)]; omega
    obtain ⟨b, e1, e2, e3⟩ := drop_bt s i (by omega)
    rw [broadsheetref01_Name.l0, if_pos (by omega), if_pos (by omega), hw, hI, e2, e1, List.all_cons]
    unfold chOk
    have h8 : b.toNat < 256 := b.toNat_lt
    generalize (s.data.toList.drop (i + 1)).all _ = q
    generalize b.toNat = x at *
    repeat' split
    all_goals congr 1
    all_goals first
      | (exfalso; omega)
      | (have hh : (decide (48 ≤ x) && decide (x ≤ 57) || decide (97 ≤ x) && decide (x ≤ 122) || x == 46 || x == 45) = true := by simp; omega
         rw [hh, Bool.true_and])
      | (have hh : (decide (48 ≤ x) && decide (x ≤ 57) || decide (97 ≤ x) && decide (x ≤ 122) || x == 46 || x == 45) = false := by simp; omega
         rw [hh, Bool.false_and])
theorem ref_name (a : ByteArray) (k : Nat) (hk : 40 ≤ k) : broadsheetref01_Name.f k a = some (nmOk a) := by
  obtain ⟨k, rfl⟩ : ∃ k', k = k' + 1 := ⟨k - 1, by omega⟩
  unfold broadsheetref01_Name.f nmOk
  rw [tl]
  by_cases h0 : a.size = 0
  · rw [if_pos (List.eq_nil_of_length_eq_zero (by rw [← Lib.size_eq]; exact h0)), broadsheetref01_Name.j0, if_pos rfl]
    simp [h0]
  rw [if_neg (fun e => h0 (by rw [Lib.size_eq, e]; rfl)), broadsheetref01_Name.j0]
  by_cases h1 : 32 < a.size
  · rw [if_pos (by simp; omega)]
    have : ¬ a.size ≤ 32 := by omega
    simp [h0, this]
  · rw [if_neg (by simp; omega)]
    have h2 : a.size ≤ 32 := by omega
    have := ref_name_l0 a (by omega) a.size k 0 (by omega) (by omega)
    rw [List.drop_zero] at this
    rw [show ((0 : Int)) = ((0 : Nat) : Int) from rfl, this]
    simp [h0, h2]

theorem one_dig (u : Nat) (h : u < 10) : strOfNums [((48 + u : Nat) : Int)] = mk [UInt8.ofNat (48 + u)] := by
  have key : ∀ a : Fin 10, strOfNums [((48 + a.val : Nat) : Int)] = mk [UInt8.ofNat (48 + a.val)] := by decide +kernel
  exact key ⟨u, h⟩
theorem digits_l0 (j : Nat) : ∀ (k u : Nat) (acc : ByteArray), u < 10 ^ (j + 1) → u < 9223372036854775808 → j + 1 ≤ k → acc.size + j ≤ 1000000000 →
    broadsheetref03_digits.l0 k (u : Int) acc = some (mk (Lib.decDigits u ++ acc.data.toList)) := by
  induction j with
  | zero =>
    intro k u acc hu hu2 hk ha
    obtain ⟨k, rfl⟩ : ∃ k', k = k' + 1 := ⟨k - 1, by omega⟩
    rw [broadsheetref03_digits.l0, if_neg (by omega), if_pos (by decide)]
    simp only [List.nil_append, Option.bind_some]
    have e : wrap64 (48 + (u : Int)) % 256 = ((48 + u : Nat) : Int) := by rw [wrap_id (by omega) (by omega)]; omega
    rw [e, one_dig u (by omega), if_pos (by rw [mk_size]; simp; omega), Lib.decDigits, dif_pos (by omega)]
    congr 1
  | succ j ih =>
    intro k u acc hu hu2 hk ha
    obtain ⟨k, rfl⟩ : ∃ k', k = k' + 1 := ⟨k - 1, by omega⟩
    by_cases h : u < 10
    · rw [broadsheetref03_digits.l0, if_neg (by omega), if_pos (by decide)]
      simp only [List.nil_append, Option.bind_some]
      have e : wrap64 (48 + (u : Int)) % 256 = ((48 + u : Nat) : Int) := by rw [wrap_id (by omega) (by omega)]; omega
      rw [e, one_dig u (by omega), if_pos (by rw [mk_size]; simp; omega), Lib.decDigits, dif_pos (by omega)]
      congr 1
    · rw [broadsheetref03_digits.l0, if_pos (by omega), if_pos (by decide)]
      simp only [List.nil_append, Option.bind_some]
      have e1 : Int.tmod (u : Int) 10 = ((u % 10 : Nat) : Int) := by rw [tmod_pos (by omega)]; omega
      have e2 : Int.tdiv (u : Int) 10 = ((u / 10 : Nat) : Int) := by rw [Int.tdiv_eq_ediv_of_nonneg (by omega)]; omega
      have e3 : wrap64 (48 + ((u % 10 : Nat) : Int)) % 256 = ((48 + u % 10 : Nat) : Int) := by rw [wrap_id (by omega) (by omega)]; omega
      rw [e1, e2, e3, one_dig (u % 10) (by omega), if_pos (by rw [mk_size]; simp; omega), wrap_id (by omega) (by omega)]
      rw [ih k (u / 10) _ (by rw [Nat.pow_succ] at hu; omega) (by omega) (by omega) (by rw [ByteArray.size_append, mk_size]; simp; omega)]
      rw [show Lib.decDigits u = Lib.decDigits (u / 10) ++ [UInt8.ofNat (48 + u % 10)] from by rw [Lib.decDigits, dif_neg h]]
      simp [mk_data]
theorem digits_eq (n : Int) (k : Nat) (hk : 20 ≤ k) (h0 : 0 ≤ n) (h : n < 9223372036854775808) : broadsheetref03_digits.f k n = some (mk (dec n)) := by
  obtain ⟨u, rfl⟩ := Int.eq_ofNat_of_zero_le h0
  unfold broadsheetref03_digits.f dec
  rw [show (⟨#[]⟩ : ByteArray) = mk [] from rfl, digits_l0 18 k u (mk []) (by omega) (by omega) (by omega) (by rw [mk_size]; simp)]
  simp [mk_data]
theorem less_nil {s : ByteArray} (h : s.data.toList ≠ []) : Op.bytesLess (mk []).toList s.toList = true := by
  rw [tl, tl, mk_data]
  cases e : s.data.toList with
  | nil => exact absurd e h
  | cons a r => rfl
theorem right_l0 (l : List S37) (hl : l.length ≤ 1000000) : ∀ (d k i : Nat) (last : ByteArray), i + d = l.length → d + 50 ≤ k → (i = 0 → last = mk []) → (0 < i → last = (rd_T37 l ((i - 1 : Nat) : Int)).f0) →
    broadsheetref03_right.l0 k l i = some (rowsOk last (l.drop i)) := by
  intro d
  induction d with
  | zero =>
    intro k i last hi hk h1 h2
    obtain ⟨k, rfl⟩ : ∃ k', k = k' + 1 := ⟨k - 1, by omega⟩
    rw [broadsheetref03_right.l0, if_neg (by omega), List.drop_eq_nil_of_le (by omega)]
    rfl
  | succ d ih =>
    intro k i last hi hk h1 h2
    obtain ⟨k, rfl⟩ : ∃ k', k = k' + 1 := ⟨k - 1, by omega⟩
    have hw : wrap64 ((i : Int) + 1) = ((i + 1 : Nat) : Int) := by rw [wrap_id (by omega) (by omega)]; omega
    obtain ⟨r, e1, e2⟩ := rd_at l i (by omega)
    have hI := ih k (i + 1) r.f0 (by omega) (by omega) (by omega) (fun _ => by rw [show i + 1 - 1 = i by omega, e2])
    rw [broadsheetref03_right.l0, if_pos (by omega), if_pos (by omega), e2, e1, hw, hI]
    have erows : rowsOk last (r :: l.drop (i + 1)) = (rowOk last r && rowsOk r.f0 (l.drop (i + 1))) := rfl
    rw [erows, ref_name _ _ (by omega)]
    simp only [Option.bind_some]
    cases hn0 : nmOk r.f0 with
    | false => rw [if_neg (by decide)]; simp [rowOk, hn0]
    | true =>
      rw [if_pos rfl, ref_name _ _ (by omega)]
      simp only [Option.bind_some]
      cases hn1 : nmOk r.f1 with
      | false => rw [if_neg (by decide)]; simp [rowOk, hn1]
      | true =>
        rw [if_pos rfl]
        by_cases a1 : r.f2 < 0
        · rw [if_pos a1]
          have : numOk r.f2 = false := by unfold numOk; simp; omega
          simp [rowOk, this]
        rw [if_neg a1]
        by_cases a2 : r.f2 > 1099511627776
        · rw [if_pos a2]
          have : numOk r.f2 = false := by unfold numOk; simp; omega
          simp [rowOk, this]
        rw [if_neg a2]
        by_cases a3 : r.f3 < 0
        · rw [if_pos a3]
          have : numOk r.f3 = false := by unfold numOk; simp; omega
          simp [rowOk, this]
        rw [if_neg a3]
        by_cases a4 : r.f3 > 1099511627776
        · rw [if_pos a4]
          have : numOk r.f3 = false := by unfold numOk; simp; omega
          simp [rowOk, this]
        rw [if_neg a4]
        have o2 : numOk r.f2 = true := by unfold numOk; simp; omega
        have o3 : numOk r.f3 = true := by unfold numOk; simp; omega
        by_cases hz : i = 0
        · rw [if_neg (by omega), h1 hz]
          have := less_nil (nm_len hn0).2.1
          simp [rowOk, hn0, hn1, o2, o3, this]
        · rw [if_pos (by omega)]
          have hw2 : wrap64 ((i : Int) - 1) = ((i - 1 : Nat) : Int) := by rw [wrap_id (by omega) (by omega)]; omega
          rw [hw2, if_pos (by omega), if_pos (by omega), ← h2 (by omega)]
          cases hlt : Op.bytesLess last.toList r.f0.toList with
          | true => rw [if_pos rfl]; simp [rowOk, hn0, hn1, o2, o3, hlt]
          | false => rw [if_neg (by decide)]; simp [rowOk, hlt]
theorem right_eq (l : List S37) (k : Nat) (hl : l.length ≤ 1000000) (hk : l.length + 50 ≤ k) : broadsheetref03_right.f k l = some (rowsOk (mk []) l) := by
  have := right_l0 l hl l.length k 0 (mk []) (by omega) hk (fun _ => rfl) (by omega)
  rwa [List.drop_zero] at this
theorem spell_l0 (l : List S37) (hl : l.length ≤ 1000000) : ∀ (d k i : Nat) (last acc : ByteArray), i + d = l.length → d + 30 ≤ k → acc.size + 100 * d ≤ 1000000000 → rowsOk last (l.drop i) = true →
    broadsheetref03_spell.l0 k l acc i = some (mk (acc.data.toList ++ rowsL (l.drop i))) := by
  intro d
  induction d with
  | zero =>
    intro k i last acc hi hk ha hr
    obtain ⟨k, rfl⟩ : ∃ k', k = k' + 1 := ⟨k - 1, by omega⟩
    rw [broadsheetref03_spell.l0, if_neg (by omega), List.drop_eq_nil_of_le (by omega)]
    simp [rowsL, mk_self]
  | succ d ih =>
    intro k i last acc hi hk ha hr
    obtain ⟨k, rfl⟩ : ∃ k', k = k' + 1 := ⟨k - 1, by omega⟩
    have hw : wrap64 ((i : Int) + 1) = ((i + 1 : Nat) : Int) := by rw [wrap_id (by omega) (by omega)]; omega
    obtain ⟨r, e1, e2⟩ := rd_at l i (by omega)
    rw [e1] at hr
    have hr' : (rowOk last r && rowsOk r.f0 (l.drop (i + 1))) = true := hr
    rw [Bool.and_eq_true] at hr'
    obtain ⟨q1, q2, q3, q4, _⟩ := rowOk_parts hr'.1
    have n1 := (nm_len q1).1
    have n2 := (nm_len q2).1
    rw [← Lib.size_eq] at n1 n2
    have b2 := numOk_bd q3
    have b3 := numOk_bd q4
    have d2 := dec_len13 _ q3
    have d3 := dec_len13 _ q4
    rw [broadsheetref03_spell.l0, if_pos (by omega), if_pos (by omega), e2, e1]
    rw [lits.2.1, lits.2.2, digits_eq r.f2 k (by omega) b2.1 (by omega), digits_eq r.f3 k (by omega) b3.1 (by omega)]
    simp only [Option.bind_some, ByteArray.size_append, mk_size, List.length_singleton]
    rw [if_pos (by omega), if_pos (by omega), if_pos (by omega), if_pos (by omega), if_pos (by omega), if_pos (by omega), if_pos (by omega), if_pos (by omega)]
    rw [hw, ih k (i + 1) r.f0 _ (by omega) (by omega) (by simp only [ByteArray.size_append, mk_size, List.length_singleton]; omega) hr'.2]
    congr 2
    simp [mk_data, rowsL, rowL]
theorem spell_eq (n : Int) (l : List S37) (k : Nat) (hl : l.length ≤ 1000000) (hk : l.length + 40 ≤ k) (hn : numOk n = true) (hr : rowsOk (mk []) l = true) :
    broadsheetref03_spell.f k n l = some (mk (body n l)) := by
  have hb := numOk_bd hn
  have hd := dec_len13 _ hn
  unfold broadsheetref03_spell.f
  rw [digits_eq n k (by omega) hb.1 (by omega)]
  simp only [Option.bind_some]
  have eg : (⟨#[103, 101, 110, 101, 114, 97, 116, 105, 111, 110, 32]⟩ : ByteArray) = mk (gen ++ [32]) := rfl
  rw [eg, lits.2.2]
  simp only [ByteArray.size_append, mk_size]
  have hg : (gen ++ [32]).length = 11 := rfl
  rw [if_pos (by omega), if_pos (by omega)]
  have := spell_l0 l hl l.length k 0 (mk []) ((mk (gen ++ [32]) ++ mk (dec n)) ++ mk [10]) (by omega) (by omega) (by simp only [ByteArray.size_append, mk_size, hg, List.length_singleton]; omega) (by rw [List.drop_zero]; exact hr)
  rw [List.drop_zero] at this
  rw [show (0 : Int) = ((0 : Nat) : Int) from rfl, this]
  congr 2
theorem ref_sum (s : ByteArray) (hs : s.size ≤ 140737488351232) (d : Nat) : ∀ (k i : Nat), i + d = s.size → d < k →
    broadsheetref02_Sum.l0 k s (adS s i).1 (adS s i).2 i = some ((adS s s.size).2 * 65536 + (adS s s.size).1) := by
  induction d with
  | zero =>
    intro k i hi hk
    obtain ⟨k, rfl⟩ : ∃ m, k = m + 1 := ⟨k - 1, by omega⟩
    obtain rfl : i = s.size := by omega
    obtain ⟨p1, p2, p3, p4⟩ := adS_bd s s.size
    simp only [broadsheetref02_Sum.l0]
    rw [if_neg (by omega), wrap_id (x := _ * 65536) (by omega) (by omega), wrap_id (by omega) (by omega)]
  | succ d ih =>
    intro k i hi hk
    obtain ⟨k, rfl⟩ : ∃ m, k = m + 1 := ⟨k - 1, by omega⟩
    obtain ⟨p1, p2, p3, p4⟩ := adS_bd s i
    have hr := bt_range s i
    have h := ih k (i + 1) (by omega) (by omega)
    simp only [broadsheetref02_Sum.l0]
    rw [if_pos (by omega), if_pos (by omega)]
    simp only [adS] at h
    rw [wrap_id (x := bt s i) (by omega) (by omega), wrap_id (x := (adS s i).1 + bt s i) (by omega) (by omega), tmod_pos (by omega), wrap_id (x := (adS s i).2 + _) (by omega) (by omega), tmod_pos (by omega), wrap_id (x := (i : Int) + 1) (by omega) (by omega)]
    exact h
theorem sum_eq (s : L) (hs : s.length ≤ 140737488351232) (k : Nat) (hk : s.length < k) : broadsheetref02_Sum.f k (mk s) = some (adl s) := by
  have e : (mk s).size = s.length := mk_size s
  exact ref_sum (mk s) (by rw [e]; exact hs) (mk s).size k 0 (by omega) (by omega)
theorem ref_print (n : Int) (l : List S37) (k : Nat) (hl : l.length ≤ 1000000) (hk : 94 * l.length + 100 ≤ k) : broadsheetref03_Print.f k n l = some (pr n l) := by
  obtain ⟨k, rfl⟩ : ∃ k', k = k' + 1 := ⟨k - 1, by omega⟩
  unfold broadsheetref03_Print.f pr
  by_cases a1 : n < 0
  · have : numOk n = false := by unfold numOk; simp; omega
    rw [if_pos a1, broadsheetref03_Print.j0, if_pos rfl, this, Bool.false_and, if_neg (by decide)]
    rfl
  rw [if_neg a1]
  by_cases a2 : n > 1099511627776
  · have : numOk n = false := by unfold numOk; simp; omega
    rw [if_pos a2, broadsheetref03_Print.j0, if_pos rfl, this, Bool.false_and, if_neg (by decide)]
    rfl
  rw [if_neg a2]
  have hn : numOk n = true := by unfold numOk; simp; omega
  rw [hn, Bool.true_and, right_eq l _ hl (by omega)]
  simp only [Option.bind_some]
  cases hr : rowsOk (mk []) l with
  | false => rw [broadsheetref03_Print.j0, if_pos (by decide), if_neg (by decide)]; rfl
  | true =>
    have hbl := body_len n l hn hr
    rw [broadsheetref03_Print.j0, if_neg (by decide), if_pos rfl, spell_eq n l k hl (by omega) hn hr]
    simp only [Option.bind_some]
    rw [mk_size, if_pos (by omega), sum_eq _ (by omega) k (by omega)]
    simp only [Option.bind_some]
    have hab := adl_bd (body n l)
    have hdl := dec_len19 _ hab.1 hab.2
    rw [digits_eq _ k (by omega) hab.1 hab.2]
    simp only [Option.bind_some, ByteArray.size_append, mk_size]
    have es : (⟨#[115, 117, 109, 32]⟩ : ByteArray) = mk (sumW ++ [32]) := rfl
    rw [es]
    have hsl : (sumW ++ [32]).length = 4 := rfl
    simp only [mk_size, hsl]
    rw [if_pos (by omega), if_pos (by omega), lits.2.2]
    congr 2
    apply ba_ext
    simp [mk_data, fin]
end Go.Proofs.YtmgabnodachboaaDoor.Mn
