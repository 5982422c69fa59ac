/- Texts of this seat, joined: lemmas and walks that its statements' proofs use. -/
import Derived.Test.YtmgabnodachboaaDoorK1
import Derived.Test.YtmgabnodachboaaDoorK2
import Derived.Lib.SplitLaws
import Derived.Lib.AtoiAllCases
import Derived.Laws.RangeAny
import Derived.Test.YtmgabnodachboaaDoorRows
import Derived.Deep.Slices
import Derived.LaidLaws
import Derived.MakeChecks
import Derived.HandedShaped
import Derived.Lib.LaidU8
import Derived.Lib.LaidTab
import Derived.WalkKit
import Derived.ProofKit
/- ManA -/
namespace Go.Proofs.YtmgabnodachboaaDoor.Mn
open Go.RowKit Go.Proofs.YtmgabnodachboaaDoorW.PrintWords Go.Proofs.YtmgabnodachboaaDoorW.PrintLast Go.Proofs.YtmgabnodachboaaDoor.O Go.Proofs.YtmgabnodachboaaDoor.Ad
set_option linter.unusedVariables false
set_option linter.unusedSimpArgs false
abbrev L := List UInt8

/-! ### Cut at a sign -/
def cut (c : UInt8) : L → List L
  | [] => [[]]
  | x :: r => if x = c then [] :: cut c r else match cut c r with
    | [] => [[x]]
    | y :: z => (x :: y) :: z
theorem cut_ne (c : UInt8) (l : L) : cut c l ≠ [] := by
  cases l with
  | nil => simp [cut]
  | cons x r =>
    unfold cut
    split
    · simp
    · split <;> simp
theorem cut_eq (c : UInt8) (r : L) : cut c (c :: r) = [] :: cut c r := by simp [cut]
theorem cut_other (c x : UInt8) (r : L) (h : x ≠ c) : ∃ y z, cut c r = y :: z ∧ cut c (x :: r) = (x :: y) :: z := by
  cases e : cut c r with
  | nil => exact absurd e (cut_ne c r)
  | cons y z => exact ⟨y, z, rfl, by simp [cut, h, e]⟩
theorem cut_none (c : UInt8) : ∀ (a : L), c ∉ a → cut c a = [a]
  | [], _ => rfl
  | x :: a, h => by
    obtain ⟨y, z, e1, e2⟩ := cut_other c x a (fun e => h (by simp [e]))
    rw [cut_none c a (fun e => h (by simp [e]))] at e1
    obtain ⟨rfl, rfl⟩ := List.cons.inj e1
    exact e2
theorem cut_app (c : UInt8) (b : L) : ∀ (a : L), c ∉ a → cut c (a ++ c :: b) = a :: cut c b
  | [], _ => cut_eq c b
  | x :: a, h => by
    obtain ⟨y, z, e1, e2⟩ := cut_other c x (a ++ c :: b) (fun e => h (by simp [e]))
    rw [cut_app c b a (fun e => h (by simp [e]))] at e1
    obtain ⟨rfl, rfl⟩ := List.cons.inj e1
    exact e2
theorem cut_len (c : UInt8) : ∀ (a : L), (cut c a).length ≤ a.length + 1
  | [] => by simp [cut]
  | x :: a => by
    have ih := cut_len c a
    by_cases h : x = c
    · subst h
      rw [cut_eq]
      simp only [List.length_cons]
      omega
    · obtain ⟨y, z, e1, e2⟩ := cut_other c x a h
      rw [e2]
      rw [e1] at ih
      simp only [List.length_cons] at ih ⊢
      omega
theorem cut_part (c : UInt8) : ∀ (a : L), ∀ p ∈ cut c a, p.length ≤ a.length
  | [] => by simp [cut]
  | x :: a => by
    have ih := cut_part c a
    intro p hp
    by_cases h : x = c
    · subst h
      rw [cut_eq] at hp
      rcases List.mem_cons.1 hp with rfl | hp
      · simp
      · have := ih p hp
        simp only [List.length_cons]
        omega
    · obtain ⟨y, z, e1, e2⟩ := cut_other c x a h
      rw [e2] at hp
      rw [e1] at ih
      rcases List.mem_cons.1 hp with rfl | hp
      · have := ih y (by simp)
        simp only [List.length_cons]
        omega
      · have := ih p (by simp [hp])
        simp only [List.length_cons]
        omega
theorem index_eq (c : UInt8) (r : L) : Lib.index (c :: r) [c] = 0 := by simp [Lib.index, List.isPrefixOf]
theorem index_other (c x : UInt8) (r : L) (h : x ≠ c) : Lib.index (x :: r) [c] = if Lib.index r [c] == -1 then -1 else Lib.index r [c] + 1 := by
  have h' : (c == x) = false := by simpa using fun e : c = x => h e.symm
  simp [Lib.index, List.isPrefixOf, h']
theorem splitK_eq (c : UInt8) (k : Nat) (r : L) : Lib.splitK [c] 0 (k + 1) (c :: r) = [] :: Lib.splitK [c] 0 k r := by
  simp [Lib.splitK, index_eq]
theorem splitK_other (c x : UInt8) (h : x ≠ c) (k : Nat) (r : L) : ∃ y z, Lib.splitK [c] 0 k r = y :: z ∧ Lib.splitK [c] 0 k (x :: r) = (x :: y) :: z := by
  cases k with
  | zero => exact ⟨r, [], rfl, rfl⟩
  | succ k =>
    have e := index_other c x r h
    by_cases hi : Lib.index r [c] = -1
    · rw [hi] at e
      refine ⟨r, [], ?_, ?_⟩ <;> simp [Lib.splitK, hi, e]
    · have hb : (Lib.index r [c] == -1) = false := by simpa using hi
      rw [hb, if_neg (by decide)] at e
      have hge := Lib.index_ge r [c]
      have hn : (Lib.index r [c] + 1 == -1) = false := by simp; omega
      have ht : (Lib.index r [c] + 1).toNat = (Lib.index r [c]).toNat + 1 := by omega
      refine ⟨_, _, by rw [Lib.splitK, hb, if_neg (by decide)], ?_⟩
      rw [Lib.splitK, e, hn, if_neg (by decide), ht]
      simp
theorem splitK_cut (c : UInt8) : ∀ s : L, Lib.splitK [c] 0 (s.count c) s = cut c s
  | [] => rfl
  | x :: r => by
    have ih := splitK_cut c r
    by_cases h : x = c
    · subst h
      rw [List.count_cons_self, splitK_eq, ih, cut_eq]
    · rw [List.count_cons_of_ne h]
      obtain ⟨y, z, e1, e2⟩ := splitK_other c x h (r.count c) r
      obtain ⟨y', z', e3, e4⟩ := cut_other c x r h
      rw [e2, e4]
      rw [ih, e3] at e1
      obtain ⟨rfl, rfl⟩ := List.cons.inj e1
      rfl
theorem split_cut (c : UInt8) (s : ByteArray) : (Lib.splitB ⟨#[c]⟩ 0 (Lib.countB s ⟨#[c]⟩) s).map (·.data.toList) = cut c s.data.toList := by
  rw [Lib.splitB_data]
  have e : Lib.countB s ⟨#[c]⟩ = s.data.toList.count c := Lib.count_one c s.data.toList
  rw [e]
  exact splitK_cut c _

/-! ### Numerals -/
theorem dg_lt (u : Nat) (h : u < 10) : (UInt8.ofNat (48 + u)).toNat = 48 + u := by
  rw [UInt8.toNat_ofNat']; omega
theorem dec_mem (u : Nat) : ∀ c ∈ Lib.decDigits u, 48 ≤ c.toNat ∧ c.toNat ≤ 57 := by
  induction u using Nat.strongRecOn with
  | _ u ih =>
    intro c hc
    rw [Lib.decDigits] at hc
    split at hc
    · rename_i h
      obtain rfl := List.mem_singleton.1 hc
      rw [dg_lt u h]; omega
    · rename_i h
      rcases List.mem_append.1 hc with hc | hc
      · exact ih (u / 10) (by omega) c hc
      · obtain rfl := List.mem_singleton.1 hc
        rw [dg_lt _ (by omega)]; omega
theorem dec_ne (u : Nat) : Lib.decDigits u ≠ [] := by
  rw [Lib.decDigits]
  split <;> simp
theorem dec_len (k : Nat) : ∀ u, u < 10 ^ (k + 1) → (Lib.decDigits u).length ≤ k + 1 := by
  induction k with
  | zero =>
    intro u h
    rw [Lib.decDigits, dif_pos (by omega)]
    simp
  | succ k ih =>
    intro u h
    rw [Lib.decDigits]
    split
    · simp
    · have := ih (u / 10) (by rw [Nat.pow_succ] at h; omega)
      simp only [List.length_append, List.length_singleton]
      omega
theorem parse_dec (u : Nat) : u < 18446744073709551616 → ∀ rest, Lib.parseUint10 0 (Lib.decDigits u ++ rest) = Lib.parseUint10 u rest := by
  induction u using Nat.strongRecOn with
  | _ u ih =>
    intro hu rest
    rw [Lib.decDigits]
    split
    · rename_i h
      have e := dg_lt u h
      simp only [List.singleton_append, Lib.parseUint10, e]
      rw [if_pos (by omega), if_neg (by omega), if_neg (by omega)]
      congr 1
      omega
    · rename_i h
      have e := dg_lt (u % 10) (by omega)
      rw [List.append_assoc, ih (u / 10) (by omega) (by omega)]
      simp only [List.singleton_append, Lib.parseUint10, e]
      rw [if_pos (by omega), if_neg (by omega), if_neg (by omega)]
      congr 1
      omega
theorem atoi_dec (u : Nat) (h : u < 9223372036854775808) : atoiF (Lib.decDigits u) = ((u : Int), none) := by
  have key : Lib.parseUint10 0 (Lib.decDigits u) = .ok u := by
    have := parse_dec u (by omega) []
    rw [List.append_nil] at this
    rw [this]; rfl
  have e : Lib.atoiAll (Lib.decDigits u) = .ok (u : Int) := by
    have hm := dec_mem u
    have hne := dec_ne u
    generalize Lib.decDigits u = l at *
    cases l with
    | nil => exact absurd rfl hne
    | cons c r =>
      obtain ⟨h1, h2⟩ := hm c (by simp)
      have hp : Lib.parseMag (c :: r) = .ok u := by
        rw [Lib.parseMag, if_neg (by simp), key]
      rw [Lib.atoiAll_plain c r (by omega) (by omega), hp, Lib.signless, if_neg (by omega)]
  simp [atoiF, e]
/-- The reader of numerals that the document has. -/
def numLoop : L → Int → Int
  | [], x => if x > 1099511627776 then -1 else x
  | c :: r, x => if c.toNat < 48 then -1 else if c.toNat > 57 then -1 else numLoop r (x * 10 + c.toNat - 48)
def numS (s : L) : Int := if s = [] ∨ 13 < s.length ∨ (s.head? = some 48 ∧ 1 < s.length) then -1 else numLoop s 0
theorem numLoop_dec (u : Nat) : ∀ rest, numLoop (Lib.decDigits u ++ rest) 0 = numLoop rest u := by
  induction u using Nat.strongRecOn with
  | _ u ih =>
    intro rest
    rw [Lib.decDigits]
    split
    · rename_i h
      have e := dg_lt u h
      simp only [List.singleton_append, numLoop, e]
      rw [if_neg (by omega), if_neg (by omega)]
      congr 1
      omega
    · rename_i h
      have e := dg_lt (u % 10) (by omega)
      rw [List.append_assoc, ih (u / 10) (by omega)]
      simp only [List.singleton_append, numLoop, e]
      rw [if_neg (by omega), if_neg (by omega)]
      congr 1
      omega
theorem dec_head (u : Nat) : 0 < u → (Lib.decDigits u).head? ≠ some 48 := by
  induction u using Nat.strongRecOn with
  | _ u ih =>
    intro h0
    rw [Lib.decDigits]
    split
    · rename_i h
      intro e
      simp only [List.head?_cons, Option.some.injEq] at e
      have := dg_lt u h
      rw [e] at this
      have z : (48 : UInt8).toNat = 48 := rfl
      omega
    · rename_i h
      rw [List.head?_append]
      have := ih (u / 10) (by omega) (by omega)
      cases e : (Lib.decDigits (u / 10)).head? with
      | none => exact absurd (List.head?_eq_none_iff.1 e) (dec_ne _)
      | some x => rw [e] at this; simpa using this
theorem numS_dec (u : Nat) (h : u ≤ 1099511627776) : numS (Lib.decDigits u) = u := by
  unfold numS
  have hl := dec_len 12 u (by omega)
  rw [if_neg]
  · have := numLoop_dec u []
    rw [List.append_nil] at this
    rw [this, numLoop, if_neg (by omega)]
  · rintro (h1 | h1 | ⟨h1, h2⟩)
    · exact dec_ne u h1
    · omega
    · rcases Nat.eq_zero_or_pos u with rfl | hp
      · rw [Lib.decDigits] at h2
        simp at h2
      · exact dec_head u hp h1
def dec (n : Int) : L := Lib.decDigits n.toNat
theorem itoa_dec (n : Int) (h : 0 ≤ n) : Lib.itoa n = dec n := by
  unfold Lib.itoa dec
  rw [if_neg (by omega)]

/-! ### Names -/
def chOk (c : UInt8) : Bool := decide (48 ≤ c.toNat) && decide (c.toNat ≤ 57) || decide (97 ≤ c.toNat) && decide (c.toNat ≤ 122) || c.toNat == 46 || c.toNat == 45
def nmOk (s : ByteArray) : Bool := !(decide (s.size = 0)) && decide (s.size ≤ 32) && s.data.toList.all chOk
end Go.Proofs.YtmgabnodachboaaDoor.Mn

/- ManB -/
namespace Go.Proofs.YtmgabnodachboaaDoor.Mn
open Go.RowKit Go.Proofs.YtmgabnodachboaaDoor.P Go.Proofs.YtmgabnodachboaaDoorW.PrintWords Go.Proofs.YtmgabnodachboaaDoorW.PrintLast Go.Proofs.YtmgabnodachboaaDoor.O Go.Proofs.YtmgabnodachboaaDoor.Ad
set_option linter.unusedVariables false
set_option linter.unusedSimpArgs false

/-! ### Bytes -/
def mk (l : L) : ByteArray := ⟨l.toArray⟩
theorem mk_data (l : L) : (mk l).data.toList = l := by simp [mk]
theorem mk_self (s : ByteArray) : mk s.data.toList = s := by cases s; simp [mk]
theorem ba_ext {a b : ByteArray} (h : a.data.toList = b.data.toList) : a = b := by rw [← mk_self a, ← mk_self b, h]
theorem mk_size (l : L) : (mk l).size = l.length := by rw [Lib.size_eq, mk_data]
theorem mk_append (a b : L) : mk a ++ mk b = mk (a ++ b) := ba_ext (by simp [mk_data])
theorem mk_inj {a b : L} (h : mk a = mk b) : a = b := by rw [← mk_data a, ← mk_data b, h]
theorem ext_sub (s : ByteArray) (a b : Nat) : s.extract a b = mk ((s.data.toList.drop a).take (b - a)) := ba_ext (by rw [Lib.extract_data, mk_data])
theorem tl (s : ByteArray) : s.toList = s.data.toList := Lib.toList_data s
theorem lits : (⟨#[]⟩ : ByteArray) = mk [] ∧ (⟨#[32]⟩ : ByteArray) = mk [32] ∧ (⟨#[10]⟩ : ByteArray) = mk [10] := ⟨rfl, rfl, rfl⟩
theorem drop_bt (s : ByteArray) (i : Nat) (h : i < s.size) : ∃ b : UInt8, s.data.toList.drop i = b :: s.data.toList.drop (i + 1) ∧ bt s i = b.toNat ∧ s[i]'h = b := by
  have h' : i < s.data.toList.length := by rw [← Lib.size_eq]; exact h
  refine ⟨s.data.toList[i], List.drop_eq_getElem_cons h', ?_, ?_⟩
  · rw [← bt_getD s i h, List.getD_eq_getElem?_getD, List.getElem?_eq_getElem h']
    rfl
  · rw [Array.getElem_toList]
    rfl

/-! ### Names -/
theorem odd_ch (b : UInt8) : oddP b.toNat = !chOk b := rfl
theorem odd_high (x : Nat) (h : 128 ≤ x) : oddP x = true := by
  unfold oddP
  simp
  omega
theorem ch_low (b : UInt8) (h : chOk b = true) : b.toNat < 128 := by
  rcases Nat.lt_or_ge b.toNat 128 with h1 | h1
  · exact h1
  · have := odd_high _ h1
    rw [odd_ch, h] at this
    simp at this
theorem idx_all (s : ByteArray) : ∀ (f pos : Nat), s.size - pos ≤ f → (Lib.idxFuncFrom oddP true s f pos = -1 ↔ (s.data.toList.drop pos).all chOk = true)
  | f, pos, hf => by
    by_cases hp : pos < s.size
    · obtain ⟨b, e1, e2, e3⟩ := drop_bt s pos hp
      cases f with
      | zero => omega
      | succ f =>
        unfold Lib.idxFuncFrom
        rw [if_pos hp, e1, List.all_cons]
        by_cases ha : b.toNat < 128
        · have hd := decode_ascii s pos hp (by rw [e3]; exact ha)
          rw [e3] at hd
          rw [hd, odd_ch]
          cases hc : chOk b with
          | true =>
            rw [if_neg (by decide)]
            rw [idx_all s f (pos + 1) (by omega)]
            simp
          | false =>
            rw [if_pos (by decide)]
            simp
        · have hd := decode_high s pos hp (by rw [e3]; omega)
          rw [if_pos (odd_high _ hd.1)]
          have : chOk b = false := by
            cases hc : chOk b with
            | true => exact absurd (ch_low b hc) ha
            | false => rfl
          rw [this]
          simp
    · rw [Lib.idxFuncFrom_end _ _ _ _ _ hp, List.drop_eq_nil_of_le (by rw [← Lib.size_eq]; omega)]
      simp
theorem name_eq (a : ByteArray) : manifest_name.f a = some (nmOk a) := by
  unfold manifest_name.f nmOk
  by_cases h0 : a.size = 0
  · simp [h0]
  by_cases h1 : 32 < a.size
  · have : ¬ a.size ≤ 32 := by omega
    simp [h0, h1, this]
  have h2 : a.size ≤ 32 := by omega
  rw [if_neg h0, if_neg h1]
  have key := idx_all a a.size 0 (by omega)
  rw [List.drop_zero] at key
  have hr := Lib.idxFunc_range oddP true a
  unfold Lib.idxFunc at hr ⊢
  have : (!decide (0 ≤ Lib.idxFuncFrom oddP true a a.size 0)) = a.data.toList.all chOk := by
    rw [Bool.eq_iff_iff, ← key]
    simp
    omega
  rw [this]
  simp [h0, h2]
/-! ### Numbers -/
def numOk (n : Int) : Bool := decide (0 ≤ n) && decide (n ≤ 1099511627776)
theorem near_l0 (l : List Int) (hl : l.length ≤ 1000000) : ∀ (d k i : Nat), i + d = l.length → d < k → manifest_near.l0 k l l.length i = some ((l.drop i).all numOk) := by
  intro d
  induction d with
  | zero =>
    intro k i hi hk
    obtain ⟨k, rfl⟩ : ∃ k', k = k' + 1 := ⟨k - 1, by omega⟩
    rw [manifest_near.l0, if_neg (by omega), List.drop_eq_nil_of_le (by omega)]
    rfl
  | succ d ih =>
    intro k i hi hk
    obtain ⟨k, rfl⟩ : ∃ k', k = k' + 1 := ⟨k - 1, by omega⟩
    have hI := ih k (i + 1) (by omega) (by omega)
    have hw : wrap64 ((i : Int) + 1) = ((i + 1 : Nat) : Int) := by rw [wrap_id (by omega) (by omega)]; omega
    have hd := List.drop_eq_getElem_cons (l := l) (i := i) (by omega)
    have hr : rd l (i : Int) = l[i]'(by omega) := by simp [rd, List.getD_eq_getElem?_getD, List.getElem?_eq_getElem (show i < l.length by omega)]
    rw [manifest_near.l0, if_pos (by omega), if_pos (by omega), if_pos (by omega), hw, hI, hr, hd, List.all_cons]
    generalize l[i]'(by omega) = x
    generalize (l.drop (i + 1)).all numOk = q
    unfold numOk
    by_cases h1 : x < 0
    · have : ¬ 0 ≤ x := by omega
      simp [h1, this]
    by_cases h2 : x > 1099511627776
    · have : ¬ x ≤ 1099511627776 := by omega
      simp [h1, h2, this]
    · have h3 : 0 ≤ x := by omega
      have h4 : x ≤ 1099511627776 := by omega
      simp [h1, h2, h3, h4]
theorem near_eq (l : List Int) (k : Nat) (hl : l.length ≤ 1000000) (hk : l.length < k) : manifest_near.f k l = some (l.all numOk) := by
  have := near_l0 l hl l.length k 0 (by omega) hk
  rwa [List.drop_zero] at this
theorem dec_len13 (n : Int) (h : numOk n = true) : (dec n).length ≤ 13 := by
  unfold numOk at h
  simp at h
  exact dec_len 12 n.toNat (by omega)
theorem dec_len19 (n : Int) (h0 : 0 ≤ n) (h : n < 9223372036854775808) : (dec n).length ≤ 19 := dec_len 18 n.toNat (by omega)
theorem itoaF (n : Int) (h0 : 0 ≤ n) (h : n < 9223372036854775808) : strconv_Itoa.f n = some (mk (dec n)) := by
  unfold strconv_Itoa.f
  rw [if_pos (by omega), itoa_dec n h0]
  rfl

/-! ### Lines -/
theorem join2 (a b : L) : Lib.join [a, b] [32] = a ++ 32 :: b := by simp [Lib.join_cons, Lib.joinTail]
theorem join4 (a b c d : L) : Lib.join [a, b, c, d] [32] = a ++ 32 :: b ++ 32 :: c ++ 32 :: d := by simp [Lib.join_cons, Lib.joinTail]
theorem w01 : wrap64 (0 + 1) = 1 := wrap_id (by omega) (by omega)
theorem w11 : wrap64 (1 + 1) = 2 := wrap_id (by omega) (by omega)
theorem line1 (w : L) (n : Int) (k : Nat) (hk : 3 ≤ k) (hw : w.length ≤ 1000) (h0 : 0 ≤ n) (h : n < 9223372036854775808) :
    manifest_line.f k [mk w] [n] = some (mk (w ++ 32 :: dec n ++ [10])) := by
  obtain ⟨k, rfl⟩ : ∃ k', k = k' + 2 := ⟨k - 2, by omega⟩
  have hl := dec_len19 n h0 h
  have hj : joinB [mk w, mk (dec n)] ⟨#[32]⟩ = w ++ 32 :: dec n := by
    unfold joinB
    simp only [List.map_cons, List.map_nil, mk_data]
    exact join2 _ _
  unfold manifest_line.f
  simp only [manifest_line.l0, List.length_cons, List.length_nil, w01, w11]
  rw [if_pos (by decide), if_pos (by decide), if_pos (by decide)]
  rw [show rd [n] 0 = n from rfl, itoaF n h0 h]
  simp only [Option.bind_some]
  rw [if_pos (by decide), if_neg (by decide)]
  simp only [List.cons_append, List.nil_append]
  rw [strings_Join.f, hj, if_pos ⟨by simp, by simp; omega⟩]
  simp only [Option.bind_some]
  have e : (⟨(w ++ 32 :: dec n).toArray⟩ : ByteArray) = mk (w ++ 32 :: dec n) := rfl
  rw [e, mk_size, if_pos (by simp; omega), lits.2.2, mk_append]
theorem line2 (a b : L) (n m : Int) (k : Nat) (hk : 4 ≤ k) (ha : a.length ≤ 1000) (hb : b.length ≤ 1000) (h0 : 0 ≤ n) (h : n < 9223372036854775808) (h0' : 0 ≤ m) (h' : m < 9223372036854775808) :
    manifest_line.f k [mk a, mk b] [n, m] = some (mk (a ++ 32 :: b ++ 32 :: dec n ++ 32 :: dec m ++ [10])) := by
  obtain ⟨k, rfl⟩ : ∃ k', k = k' + 3 := ⟨k - 3, by omega⟩
  have hl := dec_len19 n h0 h
  have hl' := dec_len19 m h0' h'
  have hj : joinB [mk a, mk b, mk (dec n), mk (dec m)] ⟨#[32]⟩ = a ++ 32 :: b ++ 32 :: dec n ++ 32 :: dec m := by
    unfold joinB
    simp only [List.map_cons, List.map_nil, mk_data]
    exact join4 _ _ _ _
  unfold manifest_line.f
  simp only [manifest_line.l0, List.length_cons, List.length_nil, w01, w11]
  rw [if_pos (by decide), if_pos (by decide), if_pos (by decide)]
  rw [show rd [n, m] 0 = n from rfl, itoaF n h0 h]
  simp only [Option.bind_some]
  rw [if_pos (by decide), if_pos (by decide), if_pos (by decide), if_pos (by decide)]
  rw [show rd [n, m] 1 = m from rfl, itoaF m h0' h']
  simp only [Option.bind_some]
  rw [if_pos (by simp), if_neg (by decide)]
  simp only [List.cons_append, List.nil_append]
  rw [strings_Join.f, hj, if_pos ⟨by simp, by simp; omega⟩]
  simp only [Option.bind_some]
  have e : (⟨(a ++ 32 :: b ++ 32 :: dec n ++ 32 :: dec m).toArray⟩ : ByteArray) = mk (a ++ 32 :: b ++ 32 :: dec n ++ 32 :: dec m) := rfl
  rw [e, mk_size, if_pos (by simp; omega), lits.2.2, mk_append]

/-! ### The printed text -/
def rowOk (last : ByteArray) (r : S37) : Bool := nmOk r.f0 && nmOk r.f1 && numOk r.f2 && numOk r.f3 && Op.bytesLess last.toList r.f0.toList
def rowsOk : ByteArray → List S37 → Bool
  | _, [] => true
  | last, r :: l => rowOk last r && rowsOk r.f0 l
def rowL (r : S37) : L := r.f0.data.toList ++ 32 :: r.f1.data.toList ++ 32 :: dec r.f2 ++ 32 :: dec r.f3
def rowsL (l : List S37) : L := l.flatMap fun r => rowL r ++ [10]
def gen : L := [103, 101, 110, 101, 114, 97, 116, 105, 111, 110]
def sumW : L := [115, 117, 109]
def adl (s : L) : Int := (adS (mk s) (mk s).size).2 * 65536 + (adS (mk s) (mk s).size).1
def fin (s : L) : L := s ++ (sumW ++ 32 :: dec (adl s) ++ [10])
def body (n : Int) (l : List S37) : L := gen ++ 32 :: dec n ++ [10] ++ rowsL l
def pr (n : Int) (l : List S37) : ByteArray × Int := if (numOk n && rowsOk (mk []) l) = true then (mk (fin (body n l)), 0) else (mk [], 30)
theorem adl_bd (s : L) : 0 ≤ adl s ∧ adl s < 9223372036854775808 := by
  obtain ⟨h1, h2, h3, h4⟩ := adS_bd (mk s) (mk s).size
  unfold adl
  omega
theorem numOk_bd {n : Int} (h : numOk n = true) : 0 ≤ n ∧ n ≤ 1099511627776 := by
  unfold numOk at h
  simpa using h
theorem nm_len {s : ByteArray} (h : nmOk s = true) : s.data.toList.length ≤ 32 ∧ s.data.toList ≠ [] ∧ s.data.toList.all chOk = true := by
  unfold nmOk at h
  simp only [Bool.and_eq_true, Bool.not_eq_true', decide_eq_false_iff_not, decide_eq_true_eq] at h
  obtain ⟨⟨h1, h2⟩, h3⟩ := h
  rw [Lib.size_eq] at h1 h2
  exact ⟨h2, fun e => h1 (by rw [e]; rfl), h3⟩
theorem rowOk_parts {last : ByteArray} {r : S37} (h : rowOk last r = true) : nmOk r.f0 = true ∧ nmOk r.f1 = true ∧ numOk r.f2 = true ∧ numOk r.f3 = true ∧ Op.bytesLess last.toList r.f0.toList = true := by
  unfold rowOk at h
  simp only [Bool.and_eq_true] at h
  exact ⟨h.1.1.1.1, h.1.1.1.2, h.1.1.2, h.1.2, h.2⟩
theorem rowL_len {last : ByteArray} {r : S37} (h : rowOk last r = true) : (rowL r).length ≤ 93 := by
  obtain ⟨h1, h2, h3, h4, _⟩ := rowOk_parts h
  have a1 := (nm_len h1).1
  have a2 := (nm_len h2).1
  have a3 := dec_len13 _ h3
  have a4 := dec_len13 _ h4
  unfold rowL
  simp only [List.length_append, List.length_cons]
  omega
theorem rd_at (l : List S37) (i : Nat) (h : i < l.length) : ∃ r, l.drop i = r :: l.drop (i + 1) ∧ rd_T37 l (i : Int) = r := by
  refine ⟨l[i], List.drop_eq_getElem_cons h, ?_⟩
  simp [rd_T37, List.getD_eq_getElem?_getD, List.getElem?_eq_getElem h]
theorem print_l0 (l : List S37) (hl : l.length ≤ 1000000) : ∀ (d k i : Nat) (last acc : ByteArray), i + d = l.length → 2 * d + 8 ≤ k → acc.size + 100 * d ≤ 1000000000 →
    manifest_Print.l0 k last l l.length i acc = some (if rowsOk last (l.drop i) = true then (mk (fin (acc.data.toList ++ rowsL (l.drop i))), 0) else (mk [], 30)) := by
  intro d
  induction d with
  | zero =>
    intro k i last acc hi hk ha
    obtain ⟨k, rfl⟩ : ∃ k', k = k' + 1 := ⟨k - 1, by omega⟩
    rw [manifest_Print.l0, if_neg (by omega), List.drop_eq_nil_of_le (by omega)]
    simp only [Builder_String.f, Option.bind_some]
    have hsz : acc.size ≤ 9223372036854775807 := by omega
    rw [adler_some acc hsz]
    simp only [Option.bind_some]
    have hb := adl_bd acc.data.toList
    have ead : (adS acc acc.size).2 * 65536 + (adS acc acc.size).1 = adl acc.data.toList := by unfold adl; rw [mk_self]
    rw [ead, show (⟨#[115, 117, 109]⟩ : ByteArray) = mk sumW from rfl, line1 sumW _ k (by omega) (by decide) hb.1 hb.2]
    simp only [Option.bind_some]
    have hdl := dec_len19 _ hb.1 hb.2
    rw [mk_size, if_pos (by simp [sumW]; omega)]
    simp only [rowsOk, rowsL, List.flatMap_nil, List.append_nil, if_true]
    congr 2
  | succ d ih =>
    intro k i last acc hi hk ha
    obtain ⟨k, rfl⟩ : ∃ k', k = k' + 2 := ⟨k - 2, by omega⟩
    have hw : wrap64 ((i : Int) + 1) = ((i + 1 : Nat) : Int) := by rw [wrap_id (by omega) (by omega)]; omega
    obtain ⟨r, e1, e2⟩ := rd_at l i (by omega)
    rw [manifest_Print.l0, if_pos (by omega), if_pos (by omega), if_pos (by omega), e2, e1]
    have hbad : ∀ b : Bool, rowOk last r = false → (if (rowOk last r && rowsOk r.f0 (l.drop (i + 1))) = true then (mk (fin (acc.data.toList ++ rowsL (r :: l.drop (i + 1)))), (0 : Int)) else (mk [], 30)) = (mk [], 30) := by
      intro _ h
      rw [h, Bool.false_and, if_neg (by decide)]
    have erows : rowsOk last (r :: l.drop (i + 1)) = (rowOk last r && rowsOk r.f0 (l.drop (i + 1))) := rfl
    rw [erows, name_eq]
    simp only [Option.bind_some]
    cases hn0 : nmOk r.f0 with
    | false =>
      rw [if_neg (by decide), manifest_Print.j1, if_pos rfl, hbad true (by simp [rowOk, hn0])]
      rfl
    | true =>
      rw [if_pos rfl, name_eq]
      simp only [Option.bind_some]
      cases hn1 : nmOk r.f1 with
      | false =>
        rw [if_neg (by decide), manifest_Print.j1, if_pos rfl, hbad true (by simp [rowOk, hn1])]
        rfl
      | true =>
        rw [if_pos rfl, near_eq _ _ (by simp) (by simp; omega)]
        simp only [Option.bind_some, List.all_cons, List.all_nil, Bool.and_true]
        cases hq : (numOk r.f2 && numOk r.f3) with
        | false =>
          rw [if_neg (by decide), manifest_Print.j1, if_pos rfl, hbad true (by rw [Bool.and_eq_false_iff] at hq; rcases hq with hq | hq <;> simp [rowOk, hq])]
          rfl
        | true =>
          rw [if_pos rfl, manifest_Print.j1]
          cases hlt : Op.bytesLess last.toList r.f0.toList with
          | false =>
            rw [if_pos (by decide), hbad true (by simp [rowOk, hlt])]
            rfl
          | true =>
            rw [if_neg (by decide)]
            rw [Bool.and_eq_true] at hq
            have hok : rowOk last r = true := by simp [rowOk, hn0, hn1, hq.1, hq.2, hlt]
            have b2 := numOk_bd hq.1
            have b3 := numOk_bd hq.2
            have hlen := rowL_len hok
            have eln := line2 r.f0.data.toList r.f1.data.toList r.f2 r.f3 k (by omega) (by have := (nm_len hn0).1; omega) (by have := (nm_len hn1).1; omega) b2.1 (by omega) b3.1 (by omega)
            rw [mk_self, mk_self] at eln
            rw [eln]
            have erow : r.f0.data.toList ++ 32 :: r.f1.data.toList ++ 32 :: dec r.f2 ++ 32 :: dec r.f3 ++ [10] = rowL r ++ [10] := rfl
            rw [erow]
            simp only [Option.bind_some]
            rw [Builder_WriteString.f, if_pos (by rw [mk_size]; simp only [List.length_append, List.length_singleton]; omega)]
            simp only [Option.bind_some]
            rw [hw, ih k (i + 1) r.f0 _ (by omega) (by omega) (by rw [ByteArray.size_append, mk_size]; simp only [List.length_append, List.length_singleton]; omega)]
            rw [hok, Bool.true_and]
            have ed : (acc ++ mk (rowL r ++ [10])).data.toList = acc.data.toList ++ (rowL r ++ [10]) := by simp [mk_data]
            rw [ed]
            simp only [rowsL, List.flatMap_cons, List.append_assoc]
theorem print_eq (n : Int) (l : List S37) (k : Nat) (hl : l.length ≤ 1000000) (hk : 2 * l.length + 10 ≤ k) : manifest_Print.f k n l = some (pr n l) := by
  unfold manifest_Print.f pr
  rw [near_eq _ _ (by simp) (by simp; omega)]
  simp only [Option.bind_some, List.all_cons, List.all_nil, Bool.and_true]
  cases hn : numOk n with
  | false => simp; rfl
  | true =>
    have hb := numOk_bd hn
    rw [if_pos rfl, show (⟨#[103, 101, 110, 101, 114, 97, 116, 105, 111, 110]⟩ : ByteArray) = mk gen from rfl, line1 gen n k (by omega) (by decide) hb.1 (by omega)]
    have h13 := dec_len13 n hn
    have e0 : (⟨#[]⟩ : ByteArray) = mk [] := rfl
    simp only [Option.bind_some]
    rw [e0, Builder_WriteString.f, if_pos (by rw [mk_size, mk_size]; simp [gen]; omega)]
    simp only [Option.bind_some]
    have := print_l0 l hl l.length k 0 (mk []) (mk [] ++ mk (gen ++ 32 :: dec n ++ [10])) (by omega) (by omega) (by rw [ByteArray.size_append, mk_size, mk_size]; simp [gen]; omega)
    rw [List.drop_zero] at this
    rw [show (0 : Int) = ((0 : Nat) : Int) from rfl, this, Bool.true_and]
    have ed : (mk [] ++ mk (gen ++ 32 :: dec n ++ [10])).data.toList = gen ++ 32 :: dec n ++ [10] := by simp [mk_data]
    rw [ed]
    rfl
theorem rowsL_len : ∀ (l : List S37) (last : ByteArray), rowsOk last l = true → (rowsL l).length ≤ 94 * l.length
  | [], _, _ => by simp [rowsL]
  | r :: l, last, h => by
    have h' : (rowOk last r && rowsOk r.f0 l) = true := h
    rw [Bool.and_eq_true] at h'
    have h1 := rowL_len h'.1
    have h2 := rowsL_len l r.f0 h'.2
    unfold rowsL at h2 ⊢
    rw [List.flatMap_cons]
    simp only [List.length_append, List.length_singleton, List.length_cons, List.length_nil]
    omega
theorem body_len (n : Int) (l : List S37) (hn : numOk n = true) (hr : rowsOk (mk []) l = true) : (body n l).length ≤ 94 * l.length + 25 := by
  have hd := dec_len13 _ hn
  have h2 := rowsL_len l _ hr
  unfold body
  simp only [List.length_append, List.length_singleton, List.length_cons, List.length_nil]
  have hg : gen.length = 10 := rfl
  omega
end Go.Proofs.YtmgabnodachboaaDoor.Mn

/- ManD -/
namespace Go.Proofs.YtmgabnodachboaaDoor.Mn
open Go.RowKit Go.Proofs.YtmgabnodachboaaDoor.P Go.Proofs.YtmgabnodachboaaDoorW.PrintWords Go.Proofs.YtmgabnodachboaaDoorW.PrintLast Go.Proofs.YtmgabnodachboaaDoor.O Go.Proofs.YtmgabnodachboaaDoor.Ad
set_option linter.unusedVariables false
set_option linter.unusedSimpArgs false

/-! ### Cutting -/
theorem mk_list (xs : List ByteArray) : (xs.map (·.data.toList)).map mk = xs := by
  rw [List.map_map]
  have : (mk ∘ fun x : ByteArray => x.data.toList) = id := by funext x; exact mk_self x
  rw [this, List.map_id]
theorem split_eq (s : ByteArray) (c : UInt8) (hs : s.size < 4294967281) : strings_Split.f s ⟨#[c]⟩ = some ((cut c s.data.toList).map mk) := by
  unfold strings_Split.f
  rw [if_pos ⟨hs, Nat.le_refl 1⟩, ← split_cut c s, mk_list]
/-! ### The lines of a told text -/
theorem ch_ne {c : UInt8} (h : chOk c = true) : c ≠ 10 ∧ c ≠ 32 := by
  constructor <;> (rintro rfl; revert h; decide)
theorem nm_not {s : ByteArray} (h : nmOk s = true) : (10 : UInt8) ∉ s.data.toList ∧ (32 : UInt8) ∉ s.data.toList := by
  have := (nm_len h).2.2
  rw [List.all_eq_true] at this
  exact ⟨fun hm => (ch_ne (this _ hm)).1 rfl, fun hm => (ch_ne (this _ hm)).2 rfl⟩
theorem dec_not (n : Int) : (10 : UInt8) ∉ dec n ∧ (32 : UInt8) ∉ dec n := by
  constructor <;> (intro hm; have := (dec_mem _ _ hm).1; revert this; decide)
theorem row_cut {last : ByteArray} {r : S37} (h : rowOk last r = true) : (10 : UInt8) ∉ rowL r ∧ cut 32 (rowL r) = [r.f0.data.toList, r.f1.data.toList, dec r.f2, dec r.f3] := by
  obtain ⟨q1, q2, q3, q4, _⟩ := rowOk_parts h
  constructor
  · unfold rowL
    have a := (nm_not q1).1
    have b := (nm_not q2).1
    have c := (dec_not r.f2).1
    have d := (dec_not r.f3).1
    simp [a, b, c, d]
  · unfold rowL
    rw [List.append_assoc, List.append_assoc, List.cons_append, List.cons_append, cut_app _ _ _ (nm_not q1).2, cut_app _ _ _ (nm_not q2).2, cut_app _ _ _ (dec_not _).2, cut_none _ _ (dec_not _).2]
theorem rows_cut (tail : L) : ∀ (l : List S37) (last : ByteArray), rowsOk last l = true → cut 10 (rowsL l ++ tail) = l.map rowL ++ cut 10 tail
  | [], _, _ => by simp [rowsL]
  | r :: l, last, h => by
    have h' : (rowOk last r && rowsOk r.f0 l) = true := h
    rw [Bool.and_eq_true] at h'
    have ih := rows_cut tail l r.f0 h'.2
    unfold rowsL at ih ⊢
    rw [List.flatMap_cons, List.append_assoc, List.append_assoc, List.singleton_append, cut_app _ _ _ (row_cut h'.1).1, ih]
    rfl
theorem gen_not : (10 : UInt8) ∉ gen ∧ (32 : UInt8) ∉ gen := by decide
theorem full_cut (n : Int) (l : List S37) (h : rowsOk (mk []) l = true) : ∃ x : L, cut 10 (fin (body n l)) = (gen ++ 32 :: dec n) :: (l.map rowL ++ [x, []]) ∧ x = sumW ++ 32 :: dec (adl (body n l)) := by
  refine ⟨_, ?_, rfl⟩
  have e : fin (body n l) = (gen ++ 32 :: dec n) ++ 10 :: (rowsL l ++ ((sumW ++ 32 :: dec (adl (body n l))) ++ [10])) := by
    have : ∀ z : L, body n l ++ z = (gen ++ 32 :: dec n) ++ 10 :: (rowsL l ++ z) := by
      intro z
      unfold body
      simp
    unfold fin
    exact this _
  rw [e, cut_app, rows_cut _ l _ h, cut_app]
  · rfl
  · have := (dec_not (adl (body n l))).1
    simp [this, sumW]
  · have := (dec_not n).1
    simp [this, gen]

/-! ### The program's rows -/
def err : Int × List S37 × Int := (0, [], 30)
def told (s : ByteArray) (n : Int) (l : List S37) : Int × List S37 × Int := if pr n l = (s, 0) then (n, l, 0) else err
theorem atoiF_tot (s : ByteArray) (h : s.size ≤ 1000000000) : strconv_Atoi.f s = some (atoiF s.data.toList) := by
  unfold strconv_Atoi.f
  rw [if_pos (by omega)]
theorem row_tot (a : ByteArray) (h : a.size ≤ 1000000000) : ∃ r1 r2 r3 r4 ok, manifest_row.f a = some (r1, r2, r3, r4, ok) := by
  unfold manifest_row.f
  rw [split_eq a 32 (by omega)]
  simp only [Option.bind_some]
  have hp : ∀ j : Int, (rdOf ByteArray.empty ((cut 32 a.data.toList).map mk) j).size ≤ 1000000000 := by
    intro j
    unfold rdOf
    rw [List.getD_eq_getElem?_getD]
    cases e : ((cut 32 a.data.toList).map mk)[j.toNat]? with
    | none => simp
    | some x =>
      have hm := List.mem_of_getElem? e
      rw [List.mem_map] at hm
      obtain ⟨p, hp, rfl⟩ := hm
      have := cut_part 32 _ p hp
      rw [Lib.size_eq] at h
      simp only [Option.getD_some, mk_size]
      omega
  generalize (cut 32 a.data.toList).map mk = t at *
  by_cases h4 : (t.length : Int) = 4
  · rw [if_pos h4, if_pos (by omega), atoiF_tot _ (hp 2)]
    simp only [Option.bind_some]
    split
    · rw [if_pos (by omega), atoiF_tot _ (hp 3)]
      simp only [Option.bind_some]
      split
      · rw [if_pos (by omega), if_pos (by omega)]; exact ⟨_, _, _, _, _, rfl⟩
      · rw [if_pos (by omega), if_pos (by omega)]; exact ⟨_, _, _, _, _, rfl⟩
    · rw [if_pos (by omega), atoiF_tot _ (hp 3)]
      simp only [Option.bind_some]
      split
      · rw [if_pos (by omega), if_pos (by omega)]; exact ⟨_, _, _, _, _, rfl⟩
      · rw [if_pos (by omega), if_pos (by omega)]; exact ⟨_, _, _, _, _, rfl⟩
  · rw [if_neg h4]
    exact ⟨_, _, _, _, _, rfl⟩
theorem atoi_num {n : Int} (h : numOk n = true) : atoiF (dec n) = (n, none) := by
  have hb := numOk_bd h
  unfold dec
  rw [atoi_dec _ (by omega)]
  congr 1
  omega
theorem row_back {last : ByteArray} {r : S37} (h : rowOk last r = true) : manifest_row.f (mk (rowL r)) = some (r.f0, r.f1, r.f2, r.f3, true) := by
  have hl := rowL_len h
  obtain ⟨q1, q2, q3, q4, _⟩ := rowOk_parts h
  unfold manifest_row.f
  rw [split_eq _ 32 (by rw [mk_size]; omega), mk_data, (row_cut h).2]
  simp only [Option.bind_some, List.map_cons, List.map_nil, mk_self]
  have d2 := dec_len13 _ q3
  have d3 := dec_len13 _ q4
  rw [if_pos (by simp), if_pos (by simp)]
  rw [show rdOf ByteArray.empty [r.f0, r.f1, mk (dec r.f2), mk (dec r.f3)] 2 = mk (dec r.f2) from rfl, show rdOf ByteArray.empty [r.f0, r.f1, mk (dec r.f2), mk (dec r.f3)] 3 = mk (dec r.f3) from rfl]
  rw [atoiF_tot _ (by rw [mk_size]; omega), atoiF_tot _ (by rw [mk_size]; omega), mk_data, mk_data, atoi_num q3, atoi_num q4]
  rfl
def rowsP : List ByteArray → Option (List S37)
  | [] => some []
  | a :: r => match manifest_row.f a with
    | some (x, y, z, v, true) => (rowsP r).map (⟨x, y, z, v⟩ :: ·)
    | _ => none
theorem rows_back : ∀ (l : List S37) (last : ByteArray), rowsOk last l = true → rowsP (l.map fun r => mk (rowL r)) = some l
  | [], _, _ => rfl
  | r :: l, last, h => by
    have h' : (rowOk last r && rowsOk r.f0 l) = true := h
    rw [Bool.and_eq_true] at h'
    have ih := rows_back l r.f0 h'.2
    simp only [List.map_cons, rowsP, row_back h'.1, ih]
    rfl
theorem parse_l0 (s : ByteArray) (n : Int) (bad : Option Int) (ls : List ByteArray) (hl : ls.length ≤ 100000) (hp : ∀ x ∈ ls, x.size ≤ 1000000000) :
    ∀ (d k i : Nat) (acc : List S37), i + d = ls.length → 3 * d + 2 * acc.length + 20 ≤ k → acc.length + d ≤ 200000 →
    manifest_Parse.l0 k s n acc bad ls ls.length i = some (match rowsP (ls.drop i) with
      | none => err
      | some rs => if bad.isNone = true then told s n (acc ++ rs) else err) := by
  intro d
  induction d with
  | zero =>
    intro k i acc hi hk ha
    obtain ⟨k, rfl⟩ : ∃ k', k = k' + 1 := ⟨k - 1, by omega⟩
    rw [manifest_Parse.l0, if_neg (by omega), List.drop_eq_nil_of_le (by omega), print_eq n acc k (by omega) (by omega)]
    simp only [Option.bind_some, rowsP, List.append_nil]
    cases hb : bad.isNone with
    | false => simp [err]
    | true =>
      simp only [if_true]
      unfold told
      by_cases e : pr n acc = (s, 0)
      · rw [if_pos e, e]
        simp
      · rw [if_neg e]
        by_cases e2 : (pr n acc).2 = 0
        · rw [if_pos e2, if_neg]
          · rfl
          · intro e3
            rw [tl, tl] at e3
            exact e (Prod.ext (ba_ext e3) e2)
        · rw [if_neg e2]
          rfl
  | succ d ih =>
    intro k i acc hi hk ha
    obtain ⟨k, rfl⟩ : ∃ k', k = k' + 1 := ⟨k - 1, by omega⟩
    have hw : wrap64 ((i : Int) + 1) = ((i + 1 : Nat) : Int) := by rw [wrap_id (by omega) (by omega)]; omega
    have hd := List.drop_eq_getElem_cons (l := ls) (i := i) (by omega)
    have hr : rdOf ByteArray.empty ls (i : Int) = ls[i]'(by omega) := by simp [rdOf, List.getD_eq_getElem?_getD, List.getElem?_eq_getElem (show i < ls.length by omega)]
    obtain ⟨r1, r2, r3, r4, ok, e⟩ := row_tot (ls[i]'(by omega)) (hp _ (List.getElem_mem _))
    rw [manifest_Parse.l0, if_pos (by omega), if_pos (by omega), if_pos (by omega), hr, e, hd, rowsP, e]
    simp only [Option.bind_some]
    cases ok with
    | false => rfl
    | true =>
      rw [if_pos rfl, if_pos (by omega), hw, ih k (i + 1) _ (by omega) (by simp; omega) (by simp; omega)]
      cases rowsP (ls.drop (i + 1)) with
      | none => rfl
      | some rs => simp
theorem trim_tot (a b : ByteArray) (ha : a.size ≤ 1000000000) (hb : b.size ≤ 1000000000) : ∃ r, strings_TrimPrefix.f a b = some r ∧ r.size ≤ a.size ∧ ∀ x, a = b ++ x → r = x := by
  unfold strings_TrimPrefix.f stringslite_TrimPrefix.f stringslite_HasPrefix.f
  have hex : ∀ x, a = b ++ x → (a.size : Int) ≥ b.size ∧ a.extract 0 b.size = b ∧ a.extract b.size a.size = x := by
    rintro x rfl
    have e : (b ++ x).data.toList = b.data.toList ++ x.data.toList := by simp
    have eb : b.size = b.data.toList.length := Lib.size_eq b
    refine ⟨by rw [ByteArray.size_append]; omega, ba_ext ?_, ba_ext ?_⟩
    · rw [Lib.extract_data, e, eb, List.drop_zero, Nat.sub_zero, List.take_left]
    · rw [Lib.extract_data, e, ByteArray.size_append, Nat.add_sub_cancel_left, eb, List.drop_left, List.take_of_length_le (by rw [← Lib.size_eq]; exact Nat.le_refl _)]
  by_cases h1 : (a.size : Int) ≥ b.size
  · rw [if_pos h1, if_pos (by omega), if_pos (by omega)]
    simp only [Option.bind_some, Int.toNat_natCast]
    cases hq : ((a.extract 0 b.size).toList == b.toList) with
    | true =>
      rw [if_pos rfl, if_pos (by omega), if_pos (by omega)]
      simp only [Option.bind_some]
      exact ⟨_, rfl, by rw [ByteArray.size_extract]; omega, fun x hx => (hex x hx).2.2⟩
    | false =>
      rw [if_neg (by decide)]
      refine ⟨_, rfl, Nat.le_refl _, fun x hx => ?_⟩
      rw [(hex x hx).2.1] at hq
      simp at hq
  · rw [if_neg h1]
    simp only [Option.bind_some]
    rw [if_neg (by decide)]
    exact ⟨_, rfl, Nat.le_refl _, fun x hx => absurd (hex x hx).1 h1⟩
/-- What a reader of manifests is wanted to do. -/
def Reads (s : ByteArray) (q : Int × List S37 × Int) : Prop :=
  (q = err ∨ ∃ n l, q = (n, l, 0) ∧ pr n l = (s, 0)) ∧ ∀ n l, pr n l = (s, 0) → q = (n, l, 0)
theorem Reads.unique {s : ByteArray} {q q' : Int × List S37 × Int} (h : Reads s q) (h' : Reads s q') : q = q' := by
  rcases h.1 with e | ⟨n, l, e, e2⟩
  · rcases h'.1 with e' | ⟨n', l', e', e2'⟩
    · rw [e, e']
    · rw [h.2 _ _ e2', e']
  · rw [h'.2 _ _ e2, e]
theorem pr_ok {n : Int} {l : List S37} {s : ByteArray} (h : pr n l = (s, 0)) : numOk n = true ∧ rowsOk (mk []) l = true ∧ s.data.toList = fin (body n l) := by
  unfold pr at h
  split at h
  · rename_i hc
    rw [Bool.and_eq_true] at hc
    refine ⟨hc.1, hc.2, ?_⟩
    rw [← (Prod.mk.inj h).1, mk_data]
  · have := (Prod.mk.inj h).2
    omega
theorem told_cases (s : ByteArray) (n : Int) (l : List S37) : told s n l = err ∨ ∃ n' l', told s n l = (n', l', 0) ∧ pr n' l' = (s, 0) := by
  unfold told
  by_cases e : pr n l = (s, 0)
  · rw [if_pos e]; exact .inr ⟨_, _, rfl, e⟩
  · rw [if_neg e]; exact .inl rfl
theorem parse_eq (s : ByteArray) (hs : s.size ≤ 90000) (k : Nat) (hk : 1000000 ≤ k) : ∃ q, manifest_Parse.f k s = some q ∧ Reads s q := by
  unfold manifest_Parse.f
  rw [show (⟨#[10]⟩ : ByteArray) = ⟨#[(10 : UInt8)]⟩ from rfl, split_eq s 10 (by omega)]
  simp only [Option.bind_some]
  have hcl := cut_len 10 s.data.toList
  rw [← Lib.size_eq] at hcl
  have hcp := cut_part 10 s.data.toList
  rw [← Lib.size_eq] at hcp
  by_cases h3 : (((cut 10 s.data.toList).map mk).length : Int) < 3
  · rw [if_pos h3]
    refine ⟨_, rfl, .inl rfl, fun n l h => ?_⟩
    obtain ⟨q1, q2, q3⟩ := pr_ok h
    obtain ⟨x, ex, _⟩ := full_cut n l q2
    rw [q3, ex] at h3
    simp at h3
    omega
  rw [if_neg h3, if_pos (by omega)]
  cases ec : cut 10 s.data.toList with
  | nil => exact absurd ec (cut_ne _ _)
  | cons y z =>
    rw [ec] at h3 hcl hcp
    simp only [List.map_cons, List.length_cons, List.length_map] at h3 hcl ⊢
    have e0 : rdOf ByteArray.empty (mk y :: z.map mk) 0 = mk y := rfl
    have hy := hcp y (by simp)
    obtain ⟨r, er, er2, er3⟩ := trim_tot (mk y) (⟨#[103, 101, 110, 101, 114, 97, 116, 105, 111, 110, 32]⟩ : ByteArray) (by rw [mk_size]; omega) (by decide)
    rw [mk_size] at er2
    rw [e0, er]
    simp only [Option.bind_some]
    rw [atoiF_tot r (by omega)]
    simp only [Option.bind_some]
    have hw : wrap64 (((z.length + 1 : Nat) : Int) - 2) = ((z.length - 1 : Nat) : Int) := by rw [wrap_id (by omega) (by omega)]; omega
    have hwi : wrap64 (((z.length : Int) + 1) - 2) = ((z.length - 1 : Nat) : Int) := by rw [wrap_id (by omega) (by omega)]; omega
    have hmid : ((mk y :: z.map mk).take (z.length - 1)).drop 1 = (z.map mk).take (z.length - 2) := by
      rw [show z.length - 1 = (z.length - 2) + 1 by omega, List.take_succ_cons, List.drop_succ_cons, List.drop_zero]
    have hlen : ((z.map mk).take (z.length - 2)).length = z.length - 2 := by simp
    have hmem : ∀ x ∈ (z.map mk).take (z.length - 2), x.size ≤ 1000000000 := by
      intro x hx
      have hx' := List.mem_of_mem_take hx
      rw [List.mem_map] at hx'
      obtain ⟨p, hp, rfl⟩ := hx'
      have := hcp p (by simp [hp])
      rw [mk_size]
      omega
    have hgo : ∀ bad : Option Int, ∃ q, manifest_Parse.l0 k s (atoiF r.data.toList).1 [] bad ((z.map mk).take (z.length - 2)) (((z.map mk).take (z.length - 2)).length : Int) 0 = some q ∧ (q = match rowsP ((z.map mk).take (z.length - 2)) with
        | none => err
        | some rs => if bad.isNone = true then told s (atoiF r.data.toList).1 rs else err) := by
      intro bad
      have := parse_l0 s (atoiF r.data.toList).1 bad ((z.map mk).take (z.length - 2)) (by rw [hlen]; omega) hmem (z.length - 2) k 0 [] (by rw [hlen]; omega) (by simp; omega) (by simp; omega)
      rw [List.drop_zero] at this
      exact ⟨_, this, rfl⟩
    have hback : ∀ n l, pr n l = (s, 0) → atoiF r.data.toList = (n, none) ∧ rowsP ((z.map mk).take (z.length - 2)) = some l := by
      intro n l h
      obtain ⟨q1, q2, q3⟩ := pr_ok h
      obtain ⟨x, ex, _⟩ := full_cut n l q2
      rw [q3, ex] at ec
      obtain ⟨ey, ez⟩ := List.cons.inj ec
      constructor
      · have : r = mk (dec n) := er3 _ (by
          rw [← ey]
          apply ba_ext
          simp [mk_data, gen])
        rw [this, mk_data, atoi_num q1]
      · rw [← ez]
        have e2 : ((l.map rowL ++ [x, []]).map mk).take ((l.map rowL ++ [x, []]).length - 2) = l.map fun r => mk (rowL r) := by
          rw [List.map_append, List.take_append_of_le_length (by simp), List.take_of_length_le (by simp), List.map_map]
          rfl
        rw [e2]
        exact rows_back l _ q2
    by_cases hb : (atoiF r.data.toList).2.isNone = true
    · rw [if_pos hb]
      simp only [hw, hwi]
      rw [if_pos (by omega), if_pos (by omega)]
      simp only [Option.bind_some, Int.toNat_natCast, hmid]
      obtain ⟨q, e1, e2⟩ := hgo none
      refine ⟨q, e1, ?_, ?_⟩
      · rw [e2]
        cases rowsP ((z.map mk).take (z.length - 2)) with
        | none => exact .inl rfl
        | some rs => exact told_cases _ _ _
      · intro n l h
        obtain ⟨b1, b2⟩ := hback n l h
        rw [e2, b2, b1]
        simp [told, h]
    · rw [if_neg hb]
      simp only [hw, hwi]
      rw [if_pos (by omega), if_pos (by omega)]
      simp only [Option.bind_some, Int.toNat_natCast, hmid]
      obtain ⟨q, e1, e2⟩ := hgo (some ((atoiF r.data.toList).2.getD 0))
      refine ⟨q, e1, ?_, ?_⟩
      · rw [e2]
        cases rowsP ((z.map mk).take (z.length - 2)) with
        | none => exact .inl rfl
        | some rs => exact .inl rfl
      · intro n l h
        obtain ⟨b1, b2⟩ := hback n l h
        rw [b1] at hb
        exact absurd rfl hb
end Go.Proofs.YtmgabnodachboaaDoor.Mn

/- ManE -/
namespace Go.Proofs.YtmgabnodachboaaDoor.Mn
open Go.RowKit Go.Proofs.YtmgabnodachboaaDoor.P Go.Proofs.YtmgabnodachboaaDoorW.PrintWords Go.Proofs.YtmgabnodachboaaDoorW.PrintLast Go.Proofs.YtmgabnodachboaaDoor.O Go.Proofs.YtmgabnodachboaaDoor.Ad
set_option linter.unusedVariables false
set_option linter.unusedSimpArgs false

/-! ### Few rows; the same rows -/
theorem few_l0 (l : List S37) : ∀ (d k i : Nat), i + d = 101 → 2 * d + 4 ≤ k → ∃ v, broadsheetlaw03_few.l0 k l i = some v ∧ (v = true → l.length ≤ 100) := by
  intro d
  induction d with
  | zero =>
    intro k i hi hk
    obtain ⟨k, rfl⟩ : ∃ k', k = k' + 2 := ⟨k - 2, by omega⟩
    have hd : decide ((i : Int) ≤ 100) = false := by simp; omega
    rw [broadsheetlaw03_few.l0, hd, ite_self, broadsheetlaw03_few.j1, if_neg (by decide)]
    exact ⟨_, rfl, fun h => by have h' := of_decide_eq_true h; omega⟩
  | succ d ih =>
    intro k i hi hk
    obtain ⟨k, rfl⟩ : ∃ k', k = k' + 2 := ⟨k - 2, by omega⟩
    have hw1 : wrap64 ((i : Int) + 1) = ((i + 1 : Nat) : Int) := by rw [wrap_id (by omega) (by omega)]; omega
    have hd : decide ((i : Int) ≤ 100) = true := by simp; omega
    rw [broadsheetlaw03_few.l0, hd]
    by_cases h : (i : Int) < l.length
    · rw [if_pos h, broadsheetlaw03_few.j1, if_pos rfl, if_pos (by omega), if_pos h]
      split
      · exact ⟨_, rfl, fun h => absurd h (by decide)⟩
      · split
        · exact ⟨_, rfl, fun h => absurd h (by decide)⟩
        · rw [hw1]
          exact ih k (i + 1) (by omega) (by omega)
    · rw [if_neg h, broadsheetlaw03_few.j1, if_neg (by decide)]
      exact ⟨_, rfl, fun h => by have h' := of_decide_eq_true h; omega⟩
theorem few_eq (l : List S37) (k : Nat) (hk : 300 ≤ k) : ∃ v, broadsheetlaw03_few.f k l = some v ∧ (v = true → l.length ≤ 100) := few_l0 l 101 k 0 (by omega) (by omega)
theorem same_l0 (l : List S37) (hl : l.length ≤ 1000000) : ∀ (d k i : Nat), i + d = l.length → d < k → broadsheetref03_Same.l0 k l l i = some true := by
  intro d
  induction d with
  | zero =>
    intro k i hi hk
    obtain ⟨k, rfl⟩ : ∃ k', k = k' + 1 := ⟨k - 1, by omega⟩
    rw [broadsheetref03_Same.l0, if_neg (by omega)]
  | succ d ih =>
    intro k i hi hk
    obtain ⟨k, rfl⟩ : ∃ k', k = k' + 1 := ⟨k - 1, by omega⟩
    have hw1 : wrap64 ((i : Int) + 1) = ((i + 1 : Nat) : Int) := by rw [wrap_id (by omega) (by omega)]; omega
    rw [broadsheetref03_Same.l0, if_pos (by omega), if_pos (by omega), if_pos (by omega), if_neg (by simp), hw1]
    exact ih k (i + 1) (by omega) (by omega)
theorem same_eq (l : List S37) (hl : l.length ≤ 1000000) (k : Nat) (hk : l.length < k) : broadsheetref03_Same.f k l l = some true := by
  unfold broadsheetref03_Same.f
  rw [if_pos rfl]
  exact same_l0 l hl l.length k 0 (by omega) hk

/-! ### Awake -/
theorem dec_ge (j : Nat) : ∀ u, 10 ^ j ≤ u → j + 1 ≤ (Lib.decDigits u).length := by
  induction j with
  | zero =>
    intro u _
    exact List.length_pos_iff.2 (dec_ne u)
  | succ j ih =>
    intro u h
    rw [Nat.pow_succ] at h
    have hp : 1 ≤ 10 ^ j := Nat.one_le_pow _ _ (by decide)
    rw [Lib.decDigits, dif_neg (by omega)]
    have := ih (u / 10) (by omega)
    simp only [List.length_append, List.length_cons, List.length_nil]
    omega
def oneRow : List S37 := [⟨⟨#[97]⟩, ⟨#[98, 49]⟩, 3, 7⟩]
def oneBody : L := [103, 101, 110, 101, 114, 97, 116, 105, 111, 110, 32, 49, 10, 97, 32, 98, 49, 32, 51, 32, 55, 10]
theorem one_body : body 1 oneRow = oneBody := by
  have d1 : dec 1 = [49] := Lib.decDigits_one (i := 1) (by decide)
  have d3 : dec 3 = [51] := Lib.decDigits_one (i := 3) (by decide)
  have d7 : dec 7 = [55] := Lib.decDigits_one (i := 7) (by decide)
  unfold body oneRow rowsL rowL
  simp only [List.flatMap_cons, List.flatMap_nil, d1, d3, d7]
  rfl
theorem one_ok : pr 1 oneRow = (mk (fin oneBody), 0) := by
  unfold pr
  have h1 : numOk 1 = true := by decide
  have h2 : rowsOk (mk []) oneRow = true := by decide +kernel
  rw [h1, h2, if_pos (by decide), one_body]
theorem one_adl : 1000 ≤ adl oneBody := by decide +kernel
theorem pr_len {n : Int} {l : List S37} (hl : l.length ≤ 900) : (pr n l).1.size ≤ 90000 := by
  unfold pr
  split
  · rename_i h
    rw [Bool.and_eq_true] at h
    have := body_len n l h.1 h.2
    have hab := adl_bd (body n l)
    have hdl := dec_len19 _ hab.1 hab.2
    rw [mk_size, fin]
    simp only [List.length_append, List.length_cons, List.length_nil]
    have : sumW.length = 3 := rfl
    omega
  · rw [mk_size]; simp
theorem awake_ (k : Nat) (hk : 2000000 ≤ k) : broadsheetlaw03_awake.f k = some true := by
  unfold broadsheetlaw03_awake.f
  simp only [Option.bind_some]
  have e : ([⟨⟨#[97]⟩, ⟨#[98, 49]⟩, 3, 7⟩] : List S37) = oneRow := rfl
  rw [e, print_eq 1 oneRow k (by decide) (by have : oneRow.length = 1 := rfl; omega), one_ok]
  simp only [Option.bind_some]
  have hsz : (mk (fin oneBody)).size ≤ 90000 := by
    have := pr_len (n := 1) (l := oneRow) (by decide)
    rwa [one_ok] at this
  obtain ⟨q, e1, e2⟩ := parse_eq (mk (fin oneBody)) hsz k (by omega)
  rw [e1, e2.2 1 oneRow one_ok]
  simp only [Option.bind_some, if_true]
  have hd : 4 ≤ (dec (adl oneBody)).length := dec_ge 3 _ (by have := one_adl; omega)
  have hob : oneBody.length = 22 := rfl
  have hlen : (fin oneBody).length = 27 + (dec (adl oneBody)).length := by
    unfold fin
    simp only [List.length_append, List.length_cons, List.length_nil]
    have : sumW.length = 3 := rfl
    omega
  rw [mk_size, if_pos (by omega), if_pos (by decide), if_pos (by omega)]
  have ee : ((mk (fin oneBody)).extract 0 26).toList = ([103, 101, 110, 101, 114, 97, 116, 105, 111, 110, 32, 49, 10, 97, 32, 98, 49, 32, 51, 32, 55, 10, 115, 117, 109, 32] : List UInt8) := by
    rw [tl, Lib.extract_data, mk_data, List.drop_zero]
    have : fin oneBody = (oneBody ++ sumW ++ [32]) ++ (dec (adl oneBody) ++ [10]) := by simp [fin]
    rw [this, List.take_append_of_le_length (by decide)]
    rfl
  rw [if_pos ee, same_eq oneRow (by decide) k (by have : oneRow.length = 1 := rfl; omega)]
  rfl
end Go.Proofs.YtmgabnodachboaaDoor.Mn

/- ManG -/
namespace Go.Proofs.YtmgabnodachboaaDoor.Mn
open Go.RowKit Go.Proofs.YtmgabnodachboaaDoor.P Go.Proofs.YtmgabnodachboaaDoorW.PrintWords Go.Proofs.YtmgabnodachboaaDoorW.PrintLast Go.Proofs.YtmgabnodachboaaDoor.O
open Go.ChangeShapes Go.WideShapes Go.Deep
set_option linter.unusedVariables false

/-- The plain wrap, with a condition of one's own and the world's shape. -/
theorem wrapS {H : Type} {enc : TypeId × Value → H} {a : Assume} {C : Checked} {os : Os} {f : FuncId} {fn : Func} {s : ChangeSpec} {conds : List PathCond} {apart fresh handsOn again : Bool} {X : World → Array Value → Prop}
    (hX : ∀ (w w' : World) (args : Array Value), w.heap = w'.heap → X w args → X w' args)
    (own : ownKnob C.prog.godebug = none) (started : os.Started) (noInit : C.prog.inits.idxOf? f = none) (hfn : C.prog.funcs[f]? = some fn)
    (witness : ∃ (w : World) (tape : Tape) (i : Input), w.os = os ∧ (w.forCall tape i).Shaped C.prog ∧ i.vars = [] ∧ Input.okWide C.prog (w.forCall tape i) .any w.heap.size f i ∧
      ((s.pre enc C.prog fn conds apart (w.forCall tape i).memory i.args ∧ X (w.forCall tape i).memory i.args) ∧ sizedMet enc C.prog fn (OpenSpec.ofChange s) apart (w.forCall tape i).memory i.args) ∧ a.holds C.prog (lone (Frame.enter C.prog f i.args .normal) [] (w.forCall tape i)))
    (contract : ∀ (W : World) (base : Nat) (args : Array Value) (ds gs : List (DataW H)) (before : List MemPlace),
      (∀ (j : Nat) t v, fn.params[j]? = some t → args[j]? = some v → Value.okWide C.prog W .any base t v) →
      DataW.Whole enc C.prog fn.params.toList s.vars apart W args.toList ds gs before →
      (DataW.weightsEach C.prog (fn.params.toList ++ s.plain.varTypes C.prog) (ds ++ gs)).all (· ≤ reachBytes) = true → X W args → W.ShapedOpen C.prog →
      Calls C.prog f args W fun e W' => ∃ v, e = .returned v ∧ s.post enc C.prog fn apart fresh handsOn again W args v W') :
    ReturnsInHanded a C os f .any (fun w args => (s.pre enc C.prog fn conds apart w args ∧ X w args) ∧ sizedMet enc C.prog fn (OpenSpec.ofChange s) apart w args) (s.post enc C.prog fn apart fresh handsOn again) := by
  refine returnsInHanded_of_calls own started noInit witness ?_
  intro w tape i _ hsh _ hok hpre _
  obtain ⟨_, _, _, fn', hfn', _, _, _, _, hval⟩ := hok
  obtain rfl : fn' = fn := Option.some.inj (hfn'.symm.trans hfn)
  obtain ⟨⟨⟨ds, gs, before, hw, _⟩, hx⟩, hz⟩ := hpre
  refine (contract (w.forCall tape i) w.heap.size i.args ds gs before hval (DataW.Whole.of_heap (w' := w.forCall tape i) (by rfl) hw) (hz.weights hw) (hX _ _ _ (by rfl) hx) hsh).mono fun e W' ⟨v, he, hp⟩ => ?_
  subst he
  exact ChangeSpec.post_blind hp

abbrev laidL : List (String × DataW Unit) := Rows.manifestPrintsRow.laid
theorem var_iface {W : World} {n nm : String} {d : DataW Unit} {g t : Nat} {ms : Array (String × TypeId)} (h : Lib.VarReads Tryd.prog W n (.iface nm d)) (hg : Tryd.prog.globalNamed n = some g) (ht : (Tryd.prog.globals[g]?).map (·.type) = some t) (hi : Tryd.prog.underlying t = some (.interface ms)) :
    ∃ t p, W.var? Tryd.prog n = some #[.iface t p] := by
  obtain ⟨g', t', cs, fuel, p, hg', ht', hv, hd⟩ := h
  obtain rfl := Option.some.inj (hg.symm.trans hg')
  obtain rfl := Option.some.inj (ht.symm.trans ht')
  obtain ⟨_, u, v, e, _, _⟩ := iface_of_trod hi hd
  refine ⟨u, v, ?_⟩
  rw [hv]
  cases cs
  simp only at e
  rw [e]
theorem glob_of {W : World} (h : laidMetH Tryd.prog laidL W) (hsh : W.ShapedOpen Tryd.prog) : Glob W := by
  rw [MakeChecks.laidMetH_plain _ _ _ (by kernel_rfl)] at h
  refine ⟨?_, ?_, ?_, ?_⟩
  · obtain ⟨g', t', cs, fuel, p, hg', ht', hv, hd⟩ := Lib.laidMet.reads h (n := "internal/strconv.uint64pow10") (d := Rows.laid_internal_strconv_uint64pow10) (.tail _ (.tail _ (.head _)))
    obtain rfl := Option.some.inj (gpow.symm.trans hg')
    obtain rfl := Option.some.inj ((show (Tryd.prog.globals[3]?).map (·.type) = some 103 by kernel_rfl).symm.trans ht')
    have hd' : DataW.trod (fun _ => ()) Tryd.prog W 0 (fun _ => true) false fuel 103 cs.toList = some (Lib.tabData .u64 Lib.pow10Tab, p) := hd
    unfold Lib.TabIs
    rw [hv, ← Lib.cells_of_tab Tryd.underlying103 Tryd.underlying84 (by kernel_rfl) (by kernel_rfl) hd']
  · have hb : ((begin Tryd.prog (fun _ _ => 0) default).world.heap[2]?).bind Obj.row? = some (#[.int .i64 0], 3) := by kernel_rfl
    obtain ⟨m, hm⟩ := cell_of_shapedOpen_int hsh (of_decide_eq_true (by kernel_rfl)) hb rfl (by kernel_rfl) (by kernel_rfl) Tryd.underlying3
    obtain ⟨cs, hh, hs, _⟩ := hsh.1 _ _ _ (of_decide_eq_true (by kernel_rfl)) hb
    refine ⟨m, ?_⟩
    have h1 : 0 < cs.size := by rw [hs]; decide
    have hc : cs[0] = .int .i64 m := by
      have : W.cell? ⟨2, 0, none⟩ = some cs[0] := by simp [World.cell?, hh, h1]
      exact Option.some.inj (this.symm.trans hm)
    unfold World.var?
    rw [gmlen]
    simp only [Option.bind_some, hh]
    congr 1
    apply Array.ext
    · rw [hs]; rfl
    · intro i hi1 hi2
      have : i = 0 := by rw [hs] at hi1; simp at hi1; exact hi1
      subst this
      rw [hc]; rfl
  · exact var_iface (Lib.laidMet.reads h (n := "strconv.ErrSyntax") (d := Rows.laid_strconv_ErrSyntax) (.tail _ (.tail _ (.tail _ (.tail _ (.tail _ (.head _))))))) gsyn (by kernel_rfl) Tryd.underlying43
  · exact var_iface (Lib.laidMet.reads h (n := "strconv.ErrRange") (d := Rows.laid_strconv_ErrRange) (.tail _ (.tail _ (.tail _ (.tail _ (.head _)))))) grng (by kernel_rfl) Tryd.underlying43
/-- A row of rows that came in, as the walks want it. -/
theorem rows_of {H : Type} {enc : TypeId × Value → H} {W : World} {v : Value} {d : DataW H} {p : List MemPlace} (h : DataW.Trod enc Tryd.prog W 0 (fun _ => true) true 22 v d p) (hv : ∃ a len cap, v = .slice a len cap) :
    ∃ A c l, v = .slice A l.length c ∧ l.length ≤ c ∧ Kd.C k37 W A l.length l := by
  obtain ⟨a, len, cap, rfl⟩ := hv
  obtain ⟨fuel, hf⟩ := h
  have hC : Tryd.prog.cellsOf 37 = 4 := by kernel_rfl
  rcases open_slice Tryd.underlying22 hf with ⟨hcs, _⟩ | ⟨a', len', cap', m, n, D, Pl, hcs, _, hl, hm, hmm, _, hi⟩
  · simp [Value.cells] at hcs
    obtain ⟨rfl, rfl, rfl⟩ := hcs
    exact ⟨none, 0, [], rfl, Nat.le_refl _, rfl, by simp, fun h => absurd h (by simp)⟩
  · simp [Value.cells] at hcs
    obtain ⟨rfl, rfl, rfl⟩ := hcs
    have hlm : len ≤ m := by rw [hmm]; split <;> omega
    have key : ∀ i, ∃ r : S37, i < len → ∀ j u, [Value.string r.f0, .string r.f1, .int .i64 r.f2, .int .i64 r.f3][j]? = some u → W.cell? (a'.add (i * 4 + j)) = some u := by
      intro i
      by_cases hil : i < len
      · obtain ⟨cs', hc, ht'⟩ := hi i (by omega)
        rw [hC] at hc
        obtain ⟨_, hcl, hat⟩ := World.cells?_some hc
        obtain ⟨ys, n', hn', hy, hlen, hyl, hff⟩ := DataW.trod_struct Tryd.underlying37 ht'
        have c9 : Tryd.prog.cellsOf 9 = 1 := by kernel_rfl
        have c3 : Tryd.prog.cellsOf 3 = 1 := by kernel_rfl
        have hys : ∀ j, j < 4 → ys[j]? = some (ys[j]!) := by
          intro j hj
          have : j < ys.length := by rw [hyl]; exact hj
          rw [List.getElem?_eq_getElem this, List.getElem!_eq_getElem?_getD, List.getElem?_eq_getElem this]
          rfl
        have q0 : DataW.trod enc Tryd.prog W 0 (fun _ => true) true n' 9 ((cs'.drop 0).take (Tryd.prog.cellsOf 9)) = some ys[0]! := (hff 0 _ rfl).trans (hys 0 (by omega))
        rw [c9] at q0
        have q1 : DataW.trod enc Tryd.prog W 0 (fun _ => true) true n' 9 ((cs'.drop 1).take (Tryd.prog.cellsOf 9)) = some ys[1]! := (hff 1 _ rfl).trans (hys 1 (by omega))
        rw [c9] at q1
        have q2 : DataW.trod enc Tryd.prog W 0 (fun _ => true) true n' 3 ((cs'.drop 2).take (Tryd.prog.cellsOf 3)) = some ys[2]! := (hff 2 _ rfl).trans (hys 2 (by omega))
        rw [c3] at q2
        have q3 : DataW.trod enc Tryd.prog W 0 (fun _ => true) true n' 3 ((cs'.drop 3).take (Tryd.prog.cellsOf 3)) = some ys[3]! := (hff 3 _ rfl).trans (hys 3 (by omega))
        rw [c3] at q3
        obtain ⟨s0, e0, _, _⟩ := DataW.trod_string Tryd.underlying9 q0
        obtain ⟨s1, e1, _, _⟩ := DataW.trod_string Tryd.underlying9 q1
        obtain ⟨z2, e2, _, _⟩ := DataW.trod_int Tryd.underlying3 q2
        obtain ⟨z3, e3, _, _⟩ := DataW.trod_int Tryd.underlying3 q3
        have at_ : ∀ (j : Nat) (u : Value), (cs'.drop j).take 1 = [u] → cs'[j]? = some u := by
          intro j u e
          have := congrArg (·[0]?) e
          simpa using this
        have f0 := at_ 0 _ e0
        have f1 := at_ 1 _ e1
        have f2 := at_ 2 _ e2
        have f3 := at_ 3 _ e3
        refine ⟨⟨s0, s1, z2, z3⟩, fun _ j u hu => ?_⟩
        have hj : j < 4 := by
          have := List.getElem?_eq_some_iff.1 hu
          exact this.1
        have hcell := hat j (by omega)
        rw [← Go.Deep.add_add, hcell]
        have : j = 0 ∨ j = 1 ∨ j = 2 ∨ j = 3 := by omega
        rcases this with rfl | rfl | rfl | rfl
        · rw [f0]; exact hu
        · rw [f1]; exact hu
        · rw [f2]; exact hu
        · rw [f3]; exact hu
      · exact ⟨z37, fun h => absurd h hil⟩
    obtain ⟨f, hf'⟩ := Classical.axiomOfChoice key
    refine ⟨some a', cap, (List.range len).map f, by simp, by simpa using hl, ?_⟩
    have hlen : ((List.range len).map f).length = len := by simp
    refine ⟨rfl, ?_, fun _ => ⟨a', rfl, fun j x hx => ?_⟩⟩
    · rw [hlen]; unfold maxLen at hm; omega
    · rw [List.getElem?_map] at hx
      obtain ⟨i, hi', rfl⟩ := Option.map_eq_some_iff.1 hx
      have hjl : j < len := by
        have := (List.getElem?_eq_some_iff.1 hi').1
        simpa using this
      have : i = j := by
        rw [List.getElem?_range hjl] at hi'
        exact (Option.some.inj hi').symm
      subst this
      exact ⟨_, rfl, k37_mk _ _, hf' i hjl⟩
end Go.Proofs.YtmgabnodachboaaDoor.Mn
