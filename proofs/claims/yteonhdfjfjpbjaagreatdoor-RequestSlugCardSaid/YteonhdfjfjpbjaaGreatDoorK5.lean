/- Texts of this seat, joined: lemmas and walks that its statements' proofs use. -/
import Derived.Test.YteonhdfjfjpbjaaGreatDoorK4
import Derived.Test.YteonhdfjfjpbjaaGreatDoorK3
import Derived.Laws.RangeAny
import Derived.Test.YteonhdfjfjpbjaaGreatDoorK1
import Derived.Deep.Slices
import Derived.LaidLaws
import Derived.MakeChecks
import Derived.HandedShaped
import Derived.Lib.LaidU8
import Derived.Lib.LaidTab
import Derived.WalkKit
import Derived.ProofKit
import Derived.Test.YteonhdfjfjpbjaaGreatDoorRows
/- SpG -/
namespace Go.Proofs.YteonhdfjfjpbjaaGreatDoor.Sp
open Go Go.RowKit Go.Proofs.YteonhdfjfjpbjaaGreatDoorW.PrintWords Go.Proofs.YteonhdfjfjpbjaaGreatDoorW.PrintLast Go.Proofs.YteonhdfjfjpbjaaGreatDoor.O Go.Proofs.YteonhdfjfjpbjaaGreatDoor.P
set_option linter.unusedVariables false
set_option linter.unusedSimpArgs false
def hexR (c : UInt8) : Int := match hexV c with
  | some n => n
  | none => -1
theorem rhex_all : ∀ a : Fin 256, broadsheetref19_hex.f 2 ((UInt8.ofNat a.val).toNat : Int) = some (hexR (UInt8.ofNat a.val)) := by decide +kernel
theorem rhexF (c : UInt8) (k : Nat) (hk : 2 ≤ k) : broadsheetref19_hex.f k (c.toNat : Int) = some (hexR c) := by
  obtain ⟨k, rfl⟩ : ∃ k', k = k' + 2 := ⟨k - 2, by omega⟩
  obtain ⟨a, rfl⟩ := u8_fin c
  rw [← rhex_all a]
  rfl
theorem hexR_ge (c : UInt8) : decide (hexR c ≥ 0) = hexB c := by
  unfold hexR hexB
  cases hexV c with
  | none => rfl
  | some n => simp
/-- The size at a line's head. -/
def rsz (l : L) : Int × L := if l.takeWhile hexB = [] ∨ 8 < (l.takeWhile hexB).length then (-1, []) else (((hexN (l.takeWhile hexB) : Nat) : Int), l.dropWhile hexB)
theorem rsize_l0 (l : L) (hl : l.length ≤ 100000000000) : ∀ (d k i : Nat), i + d = l.length → 2 * d + 5 ≤ k → i ≤ 8 → (∀ c ∈ l.take i, hexB c = true) →
    broadsheetref19_size.l0 k (mk l) ((hexN (l.take i) : Nat) : Int) i = some ((rsz l).1, mk (rsz l).2) := by
  intro d
  induction d with
  | zero =>
    intro k i hi hk h8 hx
    obtain ⟨k, rfl⟩ : ∃ k', k = k' + 2 := ⟨k - 2, by omega⟩
    rw [broadsheetref19_size.l0, if_neg (by rw [mk_size]; omega), broadsheetref19_size.j1, if_neg (by decide)]
    rw [List.take_of_length_le (by omega)] at hx ⊢
    obtain ⟨t1, t2⟩ := takeWhile_all hx
    unfold rsz
    rw [t1, t2]
    by_cases h0 : i = 0
    · have : l = [] := List.eq_nil_of_length_eq_zero (by omega)
      rw [if_pos (by omega), if_pos (.inl this)]
      rfl
    · rw [if_neg (by omega), if_pos (by omega), if_pos (by rw [mk_size]; omega), if_neg (by
        rintro (h | h)
        · rw [h] at hi; simp at hi; omega
        · omega)]
      simp only [Int.toNat_natCast, ext_from]
      rw [List.drop_eq_nil_of_le (by omega)]
  | succ d ih =>
    intro k i hi hk h8 hx
    obtain ⟨k, rfl⟩ : ∃ k', k = k' + 2 := ⟨k - 2, by omega⟩
    obtain ⟨b, e1, e2⟩ := mk_bt l i (by omega)
    have hti : (l.take i).length = i := by rw [List.length_take]; omega
    have hdec : l = l.take i ++ (b :: l.drop (i + 1)) := by rw [← e1, List.take_append_drop]
    have et : l.take (i + 1) = l.take i ++ [b] := by
      have : (l.take i ++ (b :: l.drop (i + 1))).take (i + 1) = l.take i ++ [b] := by
        rw [List.take_append, hti]
        simp
        rw [List.take_of_length_le (by omega)]
      rw [← hdec] at this
      exact this
    rw [broadsheetref19_size.l0, if_pos (by rw [mk_size]; omega), if_pos (by omega), e2, rhexF b (k + 1) (by omega)]
    simp only [Option.bind_some]
    rw [hexR_ge, broadsheetref19_size.j1]
    cases hb : hexB b with
    | true =>
      rw [if_pos rfl]
      have htw : ∀ (n : Nat), n ≤ (l.takeWhile hexB).length ∨ True := fun _ => .inr trivial
      by_cases h8i : i = 8
      · -- nine digits
        have hlen : 8 < (l.takeWhile hexB).length := by
          have htw2 : l.takeWhile hexB = (l.take i ++ [b]) ++ (l.drop (i + 1)).takeWhile hexB := by
            have hall : ∀ c ∈ l.take i ++ [b], hexB c = true := by
              intro c hc
              rcases List.mem_append.1 hc with hc | hc
              · exact hx c hc
              · rw [List.mem_singleton.1 hc]; exact hb
            have hd2 : l = (l.take i ++ [b]) ++ l.drop (i + 1) := by rw [List.append_assoc]; exact hdec
            conv => lhs; rw [hd2]
            rw [List.takeWhile_append_of_pos hall]
          rw [htw2]
          simp only [List.length_append, List.length_singleton, hti]
          omega
        rw [if_pos (by omega)]
        unfold rsz
        rw [if_pos (.inr hlen)]
        rfl
      · rw [if_neg (by omega), if_pos (by omega), if_pos (by rw [mk_size]; omega), e2, rhexF b k (by omega)]
        simp only [Option.bind_some]
        have hv : hexR b = (((hexV b).getD 0 : Nat) : Int) := by
          unfold hexR
          unfold hexB at hb
          cases e : hexV b with
          | none => rw [e] at hb; simp at hb
          | some n => rfl
        have hlt := hexN_lt (l.take i)
        rw [hti] at hlt
        have h16 : 16 ^ i ≤ 16 ^ 8 := Nat.pow_le_pow_right (by decide) (by omega)
        have hpow : (16 : Nat) ^ 8 = 4294967296 := by decide
        have hvl := hexV_lt b
        rw [hv, wrap_id (x := ((hexN (l.take i) : Nat) : Int) * 16) (by omega) (by omega), wrap_id (by omega) (by omega), w1 i (by omega)]
        have e3 : ((hexN (l.take i) : Nat) : Int) * 16 + (((hexV b).getD 0 : Nat) : Int) = ((hexN (l.take (i + 1)) : Nat) : Int) := by rw [et, hexN_snoc]; omega
        rw [e3]
        refine ih k (i + 1) (by omega) (by omega) (by omega) (fun c hc => ?_)
        rw [et] at hc
        rcases List.mem_append.1 hc with hc | hc
        · exact hx c hc
        · rw [List.mem_singleton.1 hc]; exact hb
    | false =>
      have htw : l.takeWhile hexB = l.take i ∧ l.dropWhile hexB = b :: l.drop (i + 1) := by
        have h1 : (l.take i ++ (b :: l.drop (i + 1))).takeWhile hexB = l.take i := by
          rw [List.takeWhile_append_of_pos hx, List.takeWhile_cons_of_neg (by rw [hb]; simp), List.append_nil]
        have h2 : (l.take i ++ (b :: l.drop (i + 1))).dropWhile hexB = b :: l.drop (i + 1) := by
          rw [List.dropWhile_append_of_pos hx, List.dropWhile_cons_of_neg (by rw [hb]; simp)]
        rw [← hdec] at h1 h2
        exact ⟨h1, h2⟩
      unfold rsz
      rw [if_neg (by decide), htw.1, htw.2]
      by_cases h0 : i = 0
      · subst h0
        rw [if_pos (by omega), if_pos (.inl (by simp))]
        rfl
      · rw [if_neg (by omega), if_pos (by omega), if_pos (by rw [mk_size]; omega), if_neg (by
          rintro (h | h)
          · rw [h] at hti; simp at hti; omega
          · omega)]
        simp only [Int.toNat_natCast, ext_from]
        rw [e1]
theorem rsizeF (l : L) (k : Nat) (hl : l.length ≤ 100000000000) (hk : 2 * l.length + 5 ≤ k) : broadsheetref19_size.f k (mk l) = some ((rsz l).1, mk (rsz l).2) := by
  have := rsize_l0 l hl l.length k 0 (by omega) hk (by omega) (by simp)
  exact this
theorem two_at (s : L) (n : Nat) (h : n + 2 ≤ s.length) : ((s.drop n).take 2 = [13, 10]) ↔ (bt (mk s) n = 13 ∧ bt (mk s) ((n + 1 : Nat) : Int) = 10) := by
  obtain ⟨a, e1, e2⟩ := mk_bt s n (by omega)
  obtain ⟨b, e3, e4⟩ := mk_bt s (n + 1) (by omega)
  rw [e1, e3, e2, e4]
  have h13 : ((a.toNat : Int) = 13) ↔ a = 13 := u8i a 13 (by omega)
  have h10 : ((b.toNat : Int) = 10) ↔ b = 10 := u8i b 10 (by omega)
  rw [h13, h10]
  simp
theorem rdecode_l0 : ∀ (d f k : Nat) (s acc : L), s.length ≤ d → d < f → 8 * d + 40 ≤ k → s.length ≤ 10000000000 → acc.length ≤ 100000 →
    broadsheetref19_Decode.l0 k (mk s) (mk acc) = some (txt3 (decode f s acc)) := by
  intro d
  induction d with
  | zero =>
    intro f k s acc hs hf hk hl ha
    obtain ⟨k, rfl⟩ : ∃ k', k = k' + 2 := ⟨k - 2, by omega⟩
    obtain ⟨f, rfl⟩ : ∃ f', f = f' + 1 := ⟨f - 1, by omega⟩
    obtain rfl : s = [] := List.eq_nil_of_length_eq_zero (by omega)
    rw [broadsheetref19_Decode.l0, rLineF [] (k + 1) (by simp) (by simp), decode]
    simp only [Option.bind_some, line]
    rw [if_neg (by decide)]
    rfl
  | succ d ih =>
    intro f k s acc hs hf hk hl ha
    obtain ⟨k, rfl⟩ : ∃ k', k = k' + 2 := ⟨k - 2, by omega⟩
    obtain ⟨f, rfl⟩ : ∃ f', f = f' + 1 := ⟨f - 1, by omega⟩
    rw [broadsheetref19_Decode.l0, rLineF s (k + 1) (by omega) (by omega), decode]
    cases e1 : line s with
    | none =>
      simp only [Option.bind_some]
      rw [if_neg (by decide)]
      rfl
    | some p =>
      obtain ⟨l, more⟩ := p
      have hll := congrArg List.length (line_len s _ e1)
      simp only [List.length_append, List.length_cons] at hll
      simp only [Option.bind_some, if_true]
      rw [rsizeF l (k + 1) (by omega) (by omega)]
      simp only [Option.bind_some]
      have hdl := dw_len hexB l
      have hrl : (rsz l).2.length ≤ l.length := by
        unfold rsz
        split
        · simp
        · exact hdl
      obtain ⟨q, hq, hp⟩ := rparamsF (rsz l).2 (k + 1) (by omega) (by omega)
      rw [hq]
      simp only [Option.bind_some]
      rw [parsIs_ok hp]
      by_cases hc : l.takeWhile hexB = [] ∨ 8 < (l.takeWhile hexB).length
      · have hz : csize l = none := by
          unfold csize
          rw [if_pos (hc.elim .inl (fun h => .inr (.inl h)))]
        have hr : rsz l = (-1, []) := by unfold rsz; rw [if_pos hc]
        rw [hr, if_pos (by decide), broadsheetref19_Decode.j1, if_pos rfl, hz]
        rfl
      · have hr : rsz l = (((hexN (l.takeWhile hexB) : Nat) : Int), l.dropWhile hexB) := by unfold rsz; rw [if_neg hc]
        rw [hr, if_neg (by simp only; omega), broadsheetref19_Decode.j1]
        simp only
        cases ep : pars (l.dropWhile hexB) with
        | none =>
          have hz : csize l = none := by unfold csize; rw [if_pos (.inr (.inr ep))]
          rw [if_pos (by rfl), hz]
          rfl
        | some ps =>
          have hz : csize l = some (hexN (l.takeWhile hexB)) := by
            unfold csize
            rw [if_neg (by
              rintro (h | h | h)
              · exact hc (.inl h)
              · exact hc (.inr h)
              · rw [ep] at h; simp at h)]
          have hmb := csize_lt hz
          rw [if_neg (by simp), hz]
          simp only
          generalize hexN (l.takeWhile hexB) = m at *
          by_cases h0 : m = 0
          · rw [if_pos (by omega), if_pos h0, rparseF more k (by omega) (by omega)]
            simp only [Option.bind_some]
            by_cases hz2 : (fields more).2.2 = 0
            · rw [if_pos (show (fldB (fields more)).2.2 = 0 from hz2), if_pos hz2]
              rfl
            · rw [if_neg (show ¬ (fldB (fields more)).2.2 = 0 from hz2), if_neg hz2]
              rfl
          · have hw : wrap64 (100000 - (((mk acc).size : Nat) : Int)) = ((100000 - acc.length : Nat) : Int) := by rw [mk_size, wrap_id (by omega) (by omega)]; omega
            rw [if_neg (by omega), if_neg h0, hw]
            by_cases h1 : m + acc.length > 100000
            · rw [if_pos (by omega), if_pos h1]
              rfl
            rw [if_neg (by omega), if_neg h1, w2 m (by omega), w1 m (by omega), mk_size]
            by_cases h2 : more.length < m + 2
            · rw [if_pos (by omega)]
              by_cases h2' : more.length < m
              · rw [if_pos h2']; rfl
              · rw [if_neg h2', if_pos (by
                  intro h
                  have := congrArg List.length h
                  rw [List.length_take, List.length_drop] at this
                  simp at this
                  omega)]
                rfl
            rw [if_neg (by omega), if_neg (show ¬ more.length < m by omega), if_pos (by omega), if_pos (by omega)]
            have h2at := two_at more m (by omega)
            by_cases h13 : bt (mk more) m = 13
            · rw [if_pos h13, if_pos (by omega), if_pos (by omega)]
              by_cases h10 : bt (mk more) ((m + 1 : Nat) : Int) = 10
              · rw [if_pos h10, if_pos (by omega)]
                have h3 : ¬ ((more.drop m).take 2 ≠ [13, 10]) := fun h => h (h2at.2 ⟨h13, h10⟩)
                have htl : (more.take m).length = m := by rw [List.length_take]; omega
                simp only [Int.toNat_natCast, ext_to]
                rw [if_pos (by rw [mk_size, mk_size, htl]; omega), if_pos (by omega), if_pos (by omega), if_neg h3, mk_append]
                have e2 : (mk more).extract (m + 2) more.length = mk (more.drop (m + 2)) := by
                  have := ext_from more (m + 2)
                  rw [mk_size] at this
                  exact this
                rw [e2]
                exact ih f k (more.drop (m + 2)) (acc ++ more.take m) (by rw [List.length_drop]; omega) (by omega) (by omega) (by rw [List.length_drop]; omega) (by rw [List.length_append, htl]; omega)
              · rw [if_neg h10, if_pos (fun h => h10 (h2at.1 h).2)]
                rfl
            · rw [if_neg h13, if_pos (fun h => h13 (h2at.1 h).1)]
              rfl
theorem rdecodeF (s : L) (k : Nat) (hs : s.length ≤ 10000000000) (hk : 8 * s.length + 40 ≤ k) : broadsheetref19_Decode.f k (mk s) = some (txt3 (dec s)) :=
  rdecode_l0 s.length (s.length + 1) k s [] (Nat.le_refl _) (by omega) hk hs (by simp)
end Go.Proofs.YteonhdfjfjpbjaaGreatDoor.Sp
/- SpT -/
namespace Go.Proofs.YteonhdfjfjpbjaaGreatDoor.Sp
open Go.RowKit Go.Proofs.YteonhdfjfjpbjaaGreatDoorW.PrintWords Go.Proofs.YteonhdfjfjpbjaaGreatDoorW.PrintLast Go.Proofs.YteonhdfjfjpbjaaGreatDoor.O Go.Proofs.YteonhdfjfjpbjaaGreatDoor.P
set_option linter.unusedVariables false
set_option linter.unusedSimpArgs false
def tgB (c : UInt8) : Bool := decide (32 < c.toNat) && decide (c.toNat ≤ 126) && decide (c.toNat ≠ 35)
theorem odd_ch (b : UInt8) : oddT b.toNat = !tgB b := by
  unfold oddT tgB
  rw [Bool.eq_iff_iff]
  simp
theorem odd_high (x : Nat) (h : 128 ≤ x) : oddT x = true := by
  unfold oddT
  simp
  omega
theorem tg_low (b : UInt8) (h : tgB b = true) : b.toNat < 128 := by
  unfold tgB at h
  simp at h
  omega
theorem drop_bt' (s : ByteArray) (i : Nat) (h : i < s.size) : ∃ b : UInt8, s.data.toList.drop i = b :: s.data.toList.drop (i + 1) ∧ s[i]'h = b := by
  have h' : i < s.data.toList.length := by rw [← Lib.size_eq]; exact h
  refine ⟨s.data.toList[i], List.drop_eq_getElem_cons h', ?_⟩
  rw [Array.getElem_toList]
  rfl
theorem idx_all (s : ByteArray) : ∀ (f pos : Nat), s.size - pos ≤ f → (Lib.idxFuncFrom oddT true s f pos = -1 ↔ (s.data.toList.drop pos).all tgB = true)
  | f, pos, hf => by
    by_cases hp : pos < s.size
    · obtain ⟨b, e1, e3⟩ := drop_bt' s pos hp
      cases f with
      | zero => omega
      | succ f =>
        unfold Lib.idxFuncFrom
        rw [if_pos hp, e1, List.all_cons]
        by_cases ha : b.toNat < 128
        · have hd := decode_ascii s pos hp (by rw [e3]; exact ha)
          rw [e3] at hd
          rw [hd, odd_ch]
          cases hc : tgB b with
          | true =>
            rw [if_neg (by decide)]
            rw [idx_all s f (pos + 1) (by omega)]
            simp
          | false =>
            rw [if_pos (by decide)]
            simp
        · have hd := decode_high s pos hp (by rw [e3]; omega)
          rw [if_pos (odd_high _ hd.1)]
          have : tgB b = false := by
            cases hc : tgB b with
            | true => exact absurd (tg_low b hc) ha
            | false => rfl
          rw [this]
          simp
    · rw [Lib.idxFuncFrom_end _ _ _ _ _ hp, List.drop_eq_nil_of_le (by rw [← Lib.size_eq]; omega)]
      simp
theorem target_eq (l : L) : targetB (mk l) = (decide (l.head? = some 47) && l.all tgB) := by
  unfold targetB
  rw [mk_data]
  by_cases h : l.head? = some 47
  · rw [if_pos h]
    have key := idx_all (mk l) (mk l).size 0 (by omega)
    rw [List.drop_zero, mk_data] at key
    have hr := Lib.idxFunc_range oddT true (mk l)
    unfold Lib.idxFunc at hr ⊢
    have : (!decide (0 ≤ Lib.idxFuncFrom oddT true (mk l) (mk l).size 0)) = l.all tgB := by
      rw [Bool.eq_iff_iff, ← key]
      simp
      omega
    rw [this]
    simp [h]
  · rw [if_neg h]
    simp [h]
theorem rtarget_l0 (l : L) (hl : l.length ≤ 1000000000) : ∀ (d k i : Nat), i + d = l.length → d < k → broadsheetref20_target.l0 k (mk l) (i : Int) = some ((l.drop i).all tgB) := by
  intro d
  induction d with
  | zero =>
    intro k i hi hk
    obtain ⟨k, rfl⟩ : ∃ k', k = k' + 1 := ⟨k - 1, by omega⟩
    rw [broadsheetref20_target.l0, if_neg (by rw [mk_size]; omega), List.drop_eq_nil_of_le (by omega)]
    rfl
  | succ d ih =>
    intro k i hi hk
    obtain ⟨k, rfl⟩ : ∃ k', k = k' + 1 := ⟨k - 1, by omega⟩
    obtain ⟨b, e1, e2⟩ := mk_bt l i (by omega)
    have hw : wrap64 ((i : Int) + 1) = ((i + 1 : Nat) : Int) := by rw [wrap_id (by omega) (by omega)]; omega
    rw [broadsheetref20_target.l0, if_pos (by rw [mk_size]; omega), if_pos (by omega), e1, List.all_cons, e2, hw, ih k (i + 1) (by omega) (by omega)]
    unfold tgB
    by_cases h1 : (b.toNat : Int) < 33
    · rw [if_pos h1]
      simp [show ¬ 32 < b.toNat by omega]
    · rw [if_neg h1]
      by_cases h2 : (b.toNat : Int) > 126
      · rw [if_pos h2]
        simp [show ¬ b.toNat ≤ 126 by omega]
      · rw [if_neg h2]
        by_cases h3 : (b.toNat : Int) = 35
        · rw [if_pos h3]
          simp [show b.toNat = 35 by omega]
        · rw [if_neg h3]
          simp [show 32 < b.toNat by omega, show b.toNat ≤ 126 by omega, show ¬ b.toNat = 35 by omega]
theorem rtargetF (l : L) (k : Nat) (hl : l.length ≤ 1000000000) (hk : l.length + 2 ≤ k) : broadsheetref20_target.f k (mk l) = some (targetB (mk l)) := by
  obtain ⟨k, rfl⟩ : ∃ k', k = k' + 1 := ⟨k - 1, by omega⟩
  rw [target_eq]
  unfold broadsheetref20_target.f
  rw [tl_mk]
  cases l with
  | nil => rfl
  | cons c r =>
    rw [if_neg (by simp), if_pos (by rw [mk_size]; simp), bt_head, broadsheetref20_target.j0]
    have hc : ((c.toNat : Int) = 47) ↔ c = 47 := u8i c 47 (by omega)
    by_cases h : c = 47
    · rw [if_neg (by simp [hc.2 h]), show (0 : Int) = ((0 : Nat) : Int) from rfl, rtarget_l0 (c :: r) hl (c :: r).length k 0 (by omega) (by omega), List.drop_zero]
      simp [h]
    · rw [if_pos (by simpa using fun e => h (hc.1 e))]
      simp [h]
theorem rsplit_l0 (s : L) (c : UInt8) (hs : s.length ≤ 1000000) : ∀ (d k i a : Nat) (acc : List L), i + d = s.length → a ≤ i → d + 1 < k → acc.length ≤ i → (∀ x ∈ (s.drop a).take (i - a), x ≠ c) →
    broadsheetref03_Split.l0 k (mk s) (c.toNat : Int) (acc.map mk) (a : Int) (i : Int) = some ((acc ++ Mn.cut c (s.drop a)).map mk) := by
  intro d
  induction d with
  | zero =>
    intro k i a acc hi ha hk hl hx
    obtain ⟨k, rfl⟩ : ∃ k', k = k' + 2 := ⟨k - 2, by omega⟩
    obtain rfl : i = s.length := by omega
    have hw : wrap64 ((s.length : Int) + 1) = ((s.length + 1 : Nat) : Int) := by rw [wrap_id (by omega) (by omega)]; omega
    rw [broadsheetref03_Split.l0, if_pos (by rw [mk_size]; omega), if_pos (by rw [mk_size]), if_pos (by omega), if_pos (by omega), if_pos (by rw [List.length_map]; omega), hw, broadsheetref03_Split.l0, if_neg (by rw [mk_size]; omega)]
    have hc : c ∉ s.drop a := fun hm => hx c (by rw [List.take_of_length_le (by rw [List.length_drop]; omega)]; exact hm) rfl
    rw [Mn.cut_none c _ hc, List.map_append, Int.toNat_natCast, Int.toNat_natCast, ext_mk, List.take_of_length_le (by rw [List.length_drop]; omega)]
    rfl
  | succ d ih =>
    intro k i a acc hi ha hk hl hx
    obtain ⟨k, rfl⟩ : ∃ k', k = k' + 1 := ⟨k - 1, by omega⟩
    have hlt : i < s.length := by omega
    obtain ⟨b, e1, e2⟩ := mk_bt s i hlt
    have hw : wrap64 ((i : Int) + 1) = ((i + 1 : Nat) : Int) := by rw [wrap_id (by omega) (by omega)]; omega
    have hsp : s.drop a = (s.drop a).take (i - a) ++ b :: s.drop (i + 1) := by
      have := (List.take_append_drop (i - a) (s.drop a)).symm
      rw [List.drop_drop, show a + (i - a) = i by omega, e1] at this
      exact this
    rw [broadsheetref03_Split.l0, if_pos (by rw [mk_size]; omega), if_neg (by rw [mk_size]; omega), if_pos (by omega), if_pos (by rw [mk_size]; omega), e2]
    by_cases h : b = c
    · subst h
      rw [if_pos rfl, if_pos (by omega), if_pos (by omega), if_pos (by rw [List.length_map]; omega), hw, Int.toNat_natCast, Int.toNat_natCast, ext_mk]
      have := ih k (i + 1) (i + 1) (acc ++ [(s.drop a).take (i - a)]) (by omega) (Nat.le_refl _) (by omega) (by rw [List.length_append, List.length_singleton]; omega) (by simp)
      rw [List.map_append] at this
      refine Eq.trans this ?_
      have hn : b ∉ (s.drop a).take (i - a) := fun hm => hx b hm rfl
      conv => rhs; rw [hsp, Mn.cut_app b _ _ hn]
      simp
    · rw [if_neg (fun e => h (UInt8.toNat_inj.1 (by omega))), hw]
      refine ih k (i + 1) a acc (by omega) (by omega) (by omega) (by omega) (fun x hm => ?_)
      have ht : (s.drop a).take (i + 1 - a) = (s.drop a).take (i - a) ++ [b] := by
        have hl2 : ((s.drop a).take (i - a)).length = i - a := by rw [List.length_take, List.length_drop]; omega
        conv => lhs; rw [hsp]
        rw [List.take_append, List.take_of_length_le (by omega), hl2, show i + 1 - a - (i - a) = 1 by omega]
        rfl
      rw [ht] at hm
      rcases List.mem_append.1 hm with hm | hm
      · exact hx x hm
      · rw [List.mem_singleton.1 hm]
        exact h
theorem rsplitF (s : L) (c : UInt8) (k : Nat) (hs : s.length ≤ 1000000) (hk : s.length + 1 < k) : broadsheetref03_Split.f k (mk s) (c.toNat : Int) = some ((Mn.cut c s).map mk) := by
  have := rsplit_l0 s c hs s.length k 0 0 [] (by omega) (Nat.le_refl _) hk (Nat.le_refl _) (by simp)
  rw [List.drop_zero, List.nil_append] at this
  exact this
theorem tok_whole {a : L} (h : (tok a).2 = []) : (tok a).1 = a := by
  have := (tok_parts a).1
  rw [h, List.append_nil] at this
  exact this.symm
theorem rfirstF (l : L) (k : Nat) (hl : l.length ≤ 1000000) (hk : l.length + 10 ≤ k) :
    ∃ q, broadsheetref20_first.f k (mk l) = some q ∧ q.2.2 = (match Mn.cut 32 l with
      | [a, b, c] => firstS a b c
      | _ => false) ∧ (∀ a b c, Mn.cut 32 l = [a, b, c] → q.2.2 = true → q.1 = mk a ∧ q.2.1 = mk b) := by
  have hp := Mn.cut_part 32 l
  have hs := rsplitF l 32 k hl (by omega)
  rw [show (((32 : UInt8).toNat : Nat) : Int) = 32 from rfl] at hs
  unfold broadsheetref20_first.f
  rw [hs]
  simp only [Option.bind_some]
  generalize Mn.cut 32 l = ws at *
  match ws, hp with
  | [a, b, c], hp =>
    have ha := hp a (by simp)
    have hb := hp b (by simp)
    rw [if_pos (by simp), if_pos (by simp), show rdOf ByteArray.empty ([a, b, c].map mk) 2 = mk c from rfl, show rdOf ByteArray.empty ([a, b, c].map mk) 1 = mk b from rfl, show rdOf ByteArray.empty ([a, b, c].map mk) 0 = mk a from rfl, tl_mk, show ([72, 84, 84, 80, 47, 49, 46, 49] : List UInt8) = httpL from rfl]
    unfold firstS
    by_cases h1 : c = httpL
    · rw [if_pos h1, if_pos (by simp), rtargetF b k (by omega) (by omega)]
      simp only [Option.bind_some]
      by_cases h2 : targetB (mk b) = true
      · rw [if_pos h2, if_pos (by simp), rtokF a k (by omega) (by omega)]
        simp only [Option.bind_some, tl_mk]
        by_cases h3 : (tok a).1 = []
        · rw [if_pos h3]
          exact ⟨_, rfl, by simp [h3], fun _ _ _ _ h => absurd h (by simp)⟩
        · rw [if_neg h3]
          refine ⟨_, rfl, ?_, ?_⟩
          · by_cases h4 : (tok a).2 = [] <;> simp [h1, h2, h3, h4]
          · intro a' b' c' he ht
            simp only [List.cons.injEq, and_true] at he
            obtain ⟨rfl, rfl, rfl⟩ := he
            exact ⟨congrArg mk (tok_whole (by simpa using ht)), rfl⟩
      · rw [if_neg h2]
        exact ⟨_, rfl, by simp [h2], fun _ _ _ _ h => absurd h (by decide)⟩
    · rw [if_neg h1]
      exact ⟨_, rfl, by simp [h1], fun _ _ _ _ h => absurd h (by decide)⟩
  | [], _ => rw [if_neg (by simp)]; exact ⟨_, rfl, rfl, fun _ _ _ h => by simp at h⟩
  | [_], _ => rw [if_neg (by simp)]; exact ⟨_, rfl, rfl, fun _ _ _ h => by simp at h⟩
  | [_, _], _ => rw [if_neg (by simp)]; exact ⟨_, rfl, rfl, fun _ _ _ h => by simp at h⟩
  | _ :: _ :: _ :: _ :: r, _ => rw [if_neg (by simp only [List.map_cons, List.length_cons]; omega)]; exact ⟨_, rfl, rfl, fun _ _ _ h => by simp at h⟩
theorem rsz20_l0 (a : L) (ha : a.length ≤ 9) : ∀ (d k i n : Nat), i + d = a.length → d < k → n < 10 ^ i → broadsheetref20_size.l0 k (mk a) n i = some (if (a.drop i).all digB = true then ((numN n (a.drop i) : Nat) : Int) else -1) := by
  intro d
  induction d with
  | zero =>
    intro k i n hi hk hn
    obtain ⟨k, rfl⟩ : ∃ k', k = k' + 1 := ⟨k - 1, by omega⟩
    rw [broadsheetref20_size.l0, if_neg (by rw [mk_size]; omega), List.drop_eq_nil_of_le (by omega)]
    rfl
  | succ d ih =>
    intro k i n hi hk hn
    obtain ⟨k, rfl⟩ : ∃ k', k = k' + 1 := ⟨k - 1, by omega⟩
    obtain ⟨b, e1, e2⟩ := mk_bt a i (by omega)
    have hb := b.toNat_lt
    have h9 : 10 ^ i ≤ 10 ^ 9 := Nat.pow_le_pow_right (by decide) (by omega)
    have hp : (10 : Nat) ^ 9 = 1000000000 := by decide
    rw [broadsheetref20_size.l0, if_pos (by rw [mk_size]; omega), if_pos (by omega), e1, e2, List.all_cons]
    by_cases h1 : (b.toNat : Int) < 48
    · have hd : digB b = false := by unfold digB; simp; omega
      rw [if_pos h1, hd]; rfl
    · by_cases h2 : (b.toNat : Int) > 57
      · have hd : digB b = false := by unfold digB; simp; omega
        rw [if_neg h1, if_pos h2, hd]; rfl
      · have hd : digB b = true := by unfold digB; simp; omega
        have e3 : wrap64 (wrap64 (wrap64 ((n : Int) * 10) + wrap64 (b.toNat : Int)) - 48) = ((n * 10 + (b.toNat - 48) : Nat) : Int) := by
          rw [wrap_id (x := (n : Int) * 10) (by omega) (by omega), wrap_id (x := (b.toNat : Int)) (by omega) (by omega), wrap_id (x := (n : Int) * 10 + (b.toNat : Int)) (by omega) (by omega), wrap_id (by omega) (by omega)]
          omega
        rw [if_neg h1, if_neg h2, e3, w1 i (by omega), hd, ih k (i + 1) _ (by omega) (by omega) (by rw [Nat.pow_succ]; omega), Bool.true_and]
        rfl
theorem rsz20F (a : L) (k : Nat) (hk : 12 ≤ k) : broadsheetref20_size.f k (mk a) = some (match sizeS a with
    | none => -1
    | some n => ((n : Nat) : Int)) := by
  obtain ⟨k, rfl⟩ : ∃ k', k = k' + 1 := ⟨k - 1, by omega⟩
  unfold broadsheetref20_size.f sizeS
  rw [tl_mk]
  by_cases h0 : a = []
  · rw [if_pos h0, if_pos (Or.inl h0), broadsheetref20_size.j0, if_pos rfl]
  · rw [if_neg h0, broadsheetref20_size.j0, mk_size]
    by_cases h9 : 9 < a.length
    · rw [if_pos (decide_eq_true (by omega)), if_pos (Or.inr (Or.inl h9))]
    · have key : broadsheetref20_size.l0 k (mk a) 0 0 = _ := rsz20_l0 a (by omega) a.length k 0 0 (by omega) (by omega) (by decide)
      rw [decide_eq_false (by omega), if_neg (by decide), key, List.drop_zero]
      by_cases hd : a.all digB = true
      · rw [if_pos hd, if_neg (by simp [h0, h9, hd])]
      · rw [if_neg hd, if_pos (Or.inr (Or.inr (by simpa using hd)))]
theorem join_snoc (acc : List L) (v sep : L) (h : acc ≠ []) : Lib.join (acc ++ [v]) sep = Lib.join acc sep ++ sep ++ v := by
  obtain ⟨x, r, rfl⟩ := List.exists_cons_of_ne_nil h
  rw [List.cons_append, Lib.join_cons, Lib.join_cons]
  unfold Lib.joinTail
  simp
theorem join_one (v sep : L) : Lib.join [v] sep = v := by rw [Lib.join_cons]; simp [Lib.joinTail]
theorem join_le (acc r : List L) (sep : L) : (Lib.join acc sep).length ≤ (Lib.join (acc ++ r) sep).length := by
  cases acc with
  | nil => rw [Lib.join_nil]; simp
  | cons x t =>
    rw [List.cons_append, Lib.join_cons, Lib.join_cons]
    unfold Lib.joinTail
    simp
theorem rget_l0 (l : List (L × L)) (n : L) (M : Nat) (hM : M ≤ 1000000) (hn : n.length ≤ M) (hl : l.length ≤ 1000000) (hp : ∀ p ∈ l, p.1.length ≤ M) : ∀ (d k i : Nat) (acc : List L), i + d = l.length → d + M + 1 < k → acc.length ≤ i → (Lib.join (acc ++ vals (l.drop i) n) [44, 32]).length ≤ 140737488355328 →
    broadsheetref18_Get.l0 k (pairsB l) (mk n) (mk (Lib.join acc [44, 32])) (acc.length : Int) (i : Int) = some (mk (Lib.join (acc ++ vals (l.drop i) n) [44, 32]), ((acc ++ vals (l.drop i) n).length : Int)) := by
  intro d
  induction d with
  | zero =>
    intro k i acc hi hk ha hj
    obtain ⟨k, rfl⟩ : ∃ k', k = k' + 1 := ⟨k - 1, by omega⟩
    rw [List.drop_eq_nil_of_le (by omega)] at hj ⊢
    rw [show vals [] n = [] from rfl, List.append_nil] at hj ⊢
    rw [broadsheetref18_Get.l0, if_neg (by rw [pairsB_len]; omega)]
  | succ d ih =>
    intro k i acc hi hk ha hj
    obtain ⟨k, rfl⟩ : ∃ k', k = k' + 1 := ⟨k - 1, by omega⟩
    have hlt : i < l.length := by omega
    have hmem := hp l[i] (List.getElem_mem hlt)
    rw [List.drop_eq_getElem_cons hlt, vals_cons] at hj ⊢
    rw [broadsheetref18_Get.l0, if_pos (by rw [pairsB_len]; omega), if_pos (by omega), rd_pairs l i l[i] (List.getElem?_eq_getElem hlt), rlowF _ _ (by omega) (by omega), Option.bind_some, rlowF _ _ (by omega) (by omega), Option.bind_some, tl_mk, tl_mk, w1 i (by omega), w1 acc.length (by omega)]
    by_cases h : low l[i].1 = low n
    · rw [if_pos h] at hj ⊢
      rw [if_pos h]
      have hstep := ih k (i + 1) (acc ++ [l[i].2]) (by omega) (by omega) (by rw [List.length_append, List.length_singleton]; omega) (by rw [List.append_assoc]; exact hj)
      rw [List.append_assoc, List.length_append, List.length_singleton] at hstep
      have hle := join_le (acc ++ [l[i].2]) (vals (l.drop (i + 1)) n) [44, 32]
      rw [List.append_assoc] at hle
      have hle2 := Nat.le_trans hle hj
      by_cases h0 : acc = []
      · subst h0
        rw [List.nil_append, join_one] at hle2 hstep
        rw [if_neg (by simp), if_pos (by rw [mk_size, mk_size, Lib.join_nil]; simp only [List.length_nil]; omega), mk_append, Lib.join_nil]
        exact hstep
      · have hpos := List.length_pos_iff.2 h0
        rw [join_snoc _ _ _ h0] at hle2 hstep
        simp only [List.length_append, List.length_cons, List.length_nil] at hle2
        rw [if_pos (by omega), show (⟨#[44, 32]⟩ : ByteArray) = mk [44, 32] from rfl, if_pos (by rw [mk_size]; omega), mk_append, if_pos (by rw [mk_size, mk_size, List.length_append]; simp only [List.length_cons, List.length_nil]; omega), mk_append]
        exact hstep
    · rw [if_neg h] at hj ⊢
      rw [if_neg h]
      exact ih k (i + 1) acc (by omega) (by omega) (by omega) hj
theorem rgetF (l : List (L × L)) (n : L) (M k : Nat) (hM : M ≤ 1000000) (hn : n.length ≤ M) (hl : l.length ≤ 1000000) (hp : ∀ p ∈ l, p.1.length ≤ M) (hj : (get l n).1.length ≤ 140737488355328) (hk : l.length + M + 1 < k) : broadsheetref18_Get.f k (pairsB l) (mk n) = some (mk (get l n).1, (get l n).2) := by
  have := rget_l0 l n M hM hn hl hp l.length k 0 [] (by omega) hk (by simp) (by simpa [get] using hj)
  unfold broadsheetref18_Get.f
  rw [List.drop_zero, List.nil_append] at this
  exact this
theorem get_bound (l : List (L × L)) (n : L) (hl : l.length ≤ 100000) (hp : ∀ p ∈ l, p.1.length ≤ 100000 ∧ p.2.length ≤ 100000) : (get l n).1.length ≤ 10000200000 :=
  Nat.le_trans (get_len _ _ 100000 (fun p h => (hp p h).2)) (Nat.mul_le_mul (show l.length ≤ 100000 from hl) (Nat.le_refl 100002))
theorem get_nat (l : List (L × L)) (n : L) : ∃ m : Nat, (get l n).2 = m := ⟨_, rfl⟩
theorem rbodyF (l : List (L × L)) (s : L) (k : Nat) (hs : s.length ≤ 100000) (hl : l.length ≤ 100000) (hp : ∀ p ∈ l, p.1.length ≤ 100000 ∧ p.2.length ≤ 100000) (hk : 20000000000 ≤ k) :
    ∃ q, broadsheetref20_body.f k (pairsB l) (mk s) = some q ∧ q.2 = (bodyS l s).2 ∧ (q.2 = 0 → q.1 = mk (bodyS l s).1) := by
  obtain ⟨k, rfl⟩ : ∃ k', k = k' + 1 := ⟨k - 1, by omega⟩
  have hja := get_bound l clenL hl hp
  have hjb := get_bound l tencL hl hp
  unfold broadsheetref20_body.f
  rw [show (⟨#[99, 111, 110, 116, 101, 110, 116, 45, 108, 101, 110, 103, 116, 104]⟩ : ByteArray) = mk clenL from rfl, show (⟨#[116, 114, 97, 110, 115, 102, 101, 114, 45, 101, 110, 99, 111, 100, 105, 110, 103]⟩ : ByteArray) = mk tencL from rfl,
    rgetF l clenL 100000 _ (by decide) (by decide) (by omega) (fun p h => (hp p h).1) (by omega) (by omega), Option.bind_some, rgetF l tencL 100000 _ (by decide) (by decide) (by omega) (fun p h => (hp p h).1) (by omega) (by omega), Option.bind_some]
  unfold bodyS
  obtain ⟨na, ea⟩ := get_nat l clenL
  obtain ⟨nb, eb⟩ := get_nat l tencL
  generalize get l clenL = A at *
  generalize get l tencL = B at *
  have e0 : (if A.2 > 0 then (if B.2 > 0 then (broadsheetref20_body.j0 (k + 1) (mk s) (mk A.1) A.2 (mk B.1) B.2 true) else (broadsheetref20_body.j0 (k + 1) (mk s) (mk A.1) A.2 (mk B.1) B.2 (decide (A.2 > 1)))) else (broadsheetref20_body.j0 (k + 1) (mk s) (mk A.1) A.2 (mk B.1) B.2 (decide (A.2 > 1)))) = broadsheetref20_body.j0 (k + 1) (mk s) (mk A.1) A.2 (mk B.1) B.2 (decide (1 < A.2 ∨ (0 < A.2 ∧ 0 < B.2))) := by
    by_cases h1 : A.2 > 0
    · by_cases h2 : B.2 > 0
      · rw [if_pos h1, if_pos h2, decide_eq_true (p := (1 < A.2 ∨ (0 < A.2 ∧ 0 < B.2))) (Or.inr ⟨h1, h2⟩)]
      · rw [if_pos h1, if_neg h2]
        congr 1
        rw [decide_eq_decide]
        omega
    · rw [if_neg h1]
      congr 1
      rw [decide_eq_decide]
      omega
  simp only [e0]
  rw [broadsheetref20_body.j0]
  by_cases h1 : 1 < A.2 ∨ (0 < A.2 ∧ 0 < B.2)
  · rw [if_pos (decide_eq_true h1), if_pos h1]
    exact ⟨_, rfl, rfl, fun h => absurd h (by decide)⟩
  · rw [if_neg (by simpa using h1), if_neg h1]
    by_cases h2 : 0 < B.2
    · rw [if_pos h2, if_pos h2, rlowF _ _ (by omega) (by omega), Option.bind_some, tl_mk, show ([99, 104, 117, 110, 107, 101, 100] : List UInt8) = chunkedL from rfl]
      by_cases h3 : low B.1 = chunkedL
      · rw [if_pos h3, if_pos h3, rdecodeF s k (by omega) (by omega), Option.bind_some]
        unfold txt3
        simp only [tl_mk]
        by_cases h4 : (dec s).2.2 = 0
        · rw [if_pos h4, if_pos h4]
          by_cases h5 : (dec s).2.1 = []
          · rw [if_pos h5, if_pos h5]
            exact ⟨_, rfl, h4, fun _ => rfl⟩
          · rw [if_neg h5, if_neg h5]
            exact ⟨_, rfl, rfl, fun h => absurd h (by decide)⟩
        · rw [if_neg h4, if_neg h4]
          exact ⟨_, rfl, rfl, fun h => absurd h h4⟩
      · rw [if_neg h3, if_neg h3]
        exact ⟨_, rfl, rfl, fun h => absurd h (by decide)⟩
    · rw [if_neg h2, if_neg h2]
      by_cases h3 : A.2 = 0
      · rw [if_pos h3, if_neg (show ¬ 0 < A.2 by omega), tl_mk]
        by_cases h4 : s = []
        · rw [if_pos h4, if_pos h4]
          exact ⟨_, rfl, rfl, fun _ => rfl⟩
        · rw [if_neg h4, if_neg h4]
          exact ⟨_, rfl, rfl, fun h => absurd h (by decide)⟩
      · rw [if_neg h3, if_pos (show 0 < A.2 by omega), rsz20F _ _ (by omega), Option.bind_some, mk_size]
        unfold sizeE
        cases sizeS A.1 with
        | none =>
          rw [if_pos (by decide)]
          exact ⟨_, rfl, rfl, fun h => absurd h (by decide)⟩
        | some n =>
          simp only
          rw [if_neg (by omega)]
          by_cases h5 : 100000 < n
          · rw [if_pos (by omega), if_pos h5]
            exact ⟨_, rfl, rfl, fun h => absurd h (by decide)⟩
          · rw [if_neg (by omega), if_neg h5]
            by_cases h6 : n = s.length
            · rw [if_pos (by omega), if_neg (by simpa using h6)]
              exact ⟨_, rfl, rfl, fun _ => rfl⟩
            · rw [if_neg (by omega), if_pos h6]
              exact ⟨_, rfl, rfl, fun h => absurd h (by decide)⟩
def reqT (r : L × L × List (L × L) × L × Int) : ByteArray × ByteArray × List S49 × ByteArray × Int := (mk r.1, mk r.2.1, pairsB r.2.2.1, mk r.2.2.2.1, r.2.2.2.2)
theorem reqB_eq (s : L) : reqB (mk s) = reqT (reqS s) := by unfold reqB reqT; rw [mk_data]
theorem rrest (a b r : L) (k : Nat) (hr : r.length ≤ 100000) (hk : 20000000000 ≤ k) :
    ((broadsheetref18_Parse.f k (mk r)).bind fun bt327 => (if bt327.2.2 = 0 then ((broadsheetref18_Get.f k bt327.1 (⟨#[104, 111, 115, 116]⟩ : ByteArray)).bind fun bt332 => (if bt332.2 = 1 then ((broadsheetref20_body.f k bt327.1 bt327.2.1).bind fun bt334 => (if bt334.2 = 0 then (some (mk a, mk b, bt327.1, bt334.1, (0 : Int))) else (some ((⟨#[]⟩ : ByteArray), (⟨#[]⟩ : ByteArray), ([] : List (S49)), (⟨#[]⟩ : ByteArray), bt334.2)))) else (some ((⟨#[]⟩ : ByteArray), (⟨#[]⟩ : ByteArray), ([] : List (S49)), (⟨#[]⟩ : ByteArray), 180)))) else (some ((⟨#[]⟩ : ByteArray), (⟨#[]⟩ : ByteArray), ([] : List (S49)), (⟨#[]⟩ : ByteArray), bt327.2.2)))) = some (reqT (restS a b r)) := by
  have hf := fields_len r
  rw [rparseF r k (by omega) (by omega), Option.bind_some]
  unfold fldB restS
  simp only
  by_cases h1 : (fields r).2.2 = 0
  · have hpp : ∀ p ∈ (fields r).1, p.1.length ≤ 100000 ∧ p.2.length ≤ 100000 := fun p hp => by have := hf.2.1 p hp; omega
    rw [if_pos h1, if_neg (by simpa using h1), show (⟨#[104, 111, 115, 116]⟩ : ByteArray) = mk hostL from rfl, rgetF (fields r).1 hostL 100000 k (by decide) (by decide) (by omega) (fun p hp => (hpp p hp).1) (by have := get_bound (fields r).1 hostL (by omega) hpp; omega) (by omega), Option.bind_some]
    simp only
    by_cases h2 : (get (fields r).1 hostL).2 = 1
    · obtain ⟨q, hq, hq2, hq1⟩ := rbodyF (fields r).1 (fields r).2.1 k (by omega) (by omega) hpp hk
      rw [if_pos h2, if_neg (by simpa using h2), hq, Option.bind_some]
      by_cases h3 : (bodyS (fields r).1 (fields r).2.1).2 = 0
      · rw [if_pos (hq2.trans h3), if_neg (by simpa using h3), hq1 (hq2.trans h3)]
        rfl
      · rw [if_neg (fun h => h3 (hq2.symm.trans h)), if_pos h3, hq2]
        rfl
    · rw [if_neg h2, if_pos h2]
      rfl
  · rw [if_neg h1, if_pos h1]
    rfl
theorem rreqF (s : L) (k : Nat) (hs : s.length ≤ 100000) (hk : 30000000000 ≤ k) : broadsheetref20_Parse.f k (mk s) = some (reqT (reqS s)) := by
  obtain ⟨k, rfl⟩ : ∃ k', k = k' + 1 := ⟨k - 1, by omega⟩
  unfold broadsheetref20_Parse.f reqS
  rw [rLineF s _ (by omega) (by omega), Option.bind_some]
  cases e : line s with
  | none =>
    simp only
    rw [if_neg (by decide), broadsheetref20_Parse.j0, if_pos rfl, mk_size]
    by_cases h : 8000 < s.length
    · rw [if_pos (by omega), if_pos h]; rfl
    · rw [if_neg (by omega), if_neg h]; rfl
  | some p =>
    obtain ⟨l, r⟩ := p
    have hll := congrArg List.length (line_len s _ e)
    simp only [List.length_append, List.length_cons] at hll
    simp only [if_true]
    rw [broadsheetref20_Parse.j0, mk_size, mk_size]
    by_cases h8 : 8000 < l.length
    · rw [if_pos (decide_eq_true (by omega)), if_pos h8]
      by_cases h : 8000 < s.length
      · rw [if_pos (by omega), if_pos h]; rfl
      · rw [if_neg (by omega), if_neg h]; rfl
    · rw [decide_eq_false (by omega), if_neg (by decide), if_neg h8]
      obtain ⟨q, hq, hq2, hq1⟩ := rfirstF l k (by omega) (by omega)
      rw [hq, Option.bind_some]
      generalize Mn.cut 32 l = ws at *
      match ws, hq2, hq1 with
      | [a, b, c], hq2, hq1 =>
        simp only at hq2 ⊢
        by_cases h1 : firstS a b c = true
        · obtain ⟨g1, g2⟩ := hq1 a b c rfl (hq2.trans h1)
          rw [if_pos (hq2.trans h1), if_pos h1, g1, g2]
          exact rrest a b r k (by omega) (by omega)
        · rw [if_neg (by rw [hq2]; exact h1), if_neg h1]
          rfl
      | [], hq2, _ => rw [if_neg (by rw [hq2]; simp)]; rfl
      | [_], hq2, _ => rw [if_neg (by rw [hq2]; simp)]; rfl
      | [_, _], hq2, _ => rw [if_neg (by rw [hq2]; simp)]; rfl
      | _ :: _ :: _ :: _ :: _, hq2, _ => rw [if_neg (by rw [hq2]; simp)]; rfl
theorem rsame_l0 (l : List (L × L)) (hl : l.length ≤ 1000000) : ∀ (d k i : Nat), i + d = l.length → d < k → broadsheetref07_SamePairs.l0 k (pairsB l) (pairsB l) i = some true := by
  intro d
  induction d with
  | zero =>
    intro k i hi hk
    obtain ⟨k, rfl⟩ : ∃ k', k = k' + 1 := ⟨k - 1, by omega⟩
    rw [broadsheetref07_SamePairs.l0, if_neg (by rw [pairsB_len]; omega)]
  | succ d ih =>
    intro k i hi hk
    obtain ⟨k, rfl⟩ : ∃ k', k = k' + 1 := ⟨k - 1, by omega⟩
    rw [broadsheetref07_SamePairs.l0, if_pos (by rw [pairsB_len]; omega), if_pos (by omega), if_pos (by rw [pairsB_len]; omega), if_neg (by simp), w1 i (by omega)]
    exact ih k (i + 1) (by omega) (by omega)
theorem rsameF (l : List (L × L)) (k : Nat) (hl : l.length ≤ 1000000) (hk : l.length < k) : broadsheetref07_SamePairs.f k (pairsB l) (pairsB l) = some true := by
  unfold broadsheetref07_SamePairs.f
  rw [if_pos rfl]
  exact rsame_l0 l hl l.length k 0 (by omega) hk
theorem reqS_len (s : L) : (reqS s).2.2.1.length ≤ s.length := by
  unfold reqS
  cases e : line s with
  | none => simp [zq]
  | some p =>
    obtain ⟨l, r⟩ := p
    have hll := congrArg List.length (line_len s _ e)
    simp only [List.length_append, List.length_cons] at hll
    have hf := fields_len r
    simp only
    split
    · simp [zq]
    · split
      · split
        · unfold restS
          split
          · simp [zq]
          · split
            · simp [zq]
            · split
              · simp [zq]
              · simp only; omega
        · simp [zq]
      · simp [zq]
theorem req_same (s : L) (k : Nat) (hs : s.length ≤ 100000) (hk : 100000 < k) : broadsheetref20_Same.f k (reqT (reqS s)).1 (reqT (reqS s)).2.1 (reqT (reqS s)).2.2.1 (reqT (reqS s)).2.2.2.1 (reqT (reqS s)).1 (reqT (reqS s)).2.1 (reqT (reqS s)).2.2.1 (reqT (reqS s)).2.2.2.1 = some true := by
  have := reqS_len s
  unfold broadsheetref20_Same.f
  rw [if_pos rfl, if_pos rfl, if_pos rfl]
  unfold reqT
  rw [rsameF _ k (by omega) (by omega)]
  rfl
theorem parseF (s : L) (hs : s.length ≤ 900000) : request_Parse.f (mk s) = some (reqT (reqS s)) := by
  unfold request_Parse.f
  rw [if_pos (by rw [mk_size]; exact hs), reqB_eq]
end Go.Proofs.YteonhdfjfjpbjaaGreatDoor.Sp
/- Px44 -/
namespace Go.Proofs.YteonhdfjfjpbjaaGreatDoor.P
open Go.Proofs.YteonhdfjfjpbjaaGreatDoor.B
open Go.RowKit Go.Proofs.YteonhdfjfjpbjaaGreatDoorW.PrintWords Go.Proofs.YteonhdfjfjpbjaaGreatDoorW.PrintLast Go.Proofs.YteonhdfjfjpbjaaGreatDoorW.PrintMore
attribute [local go_sem] str_leq str_gtr str_geq max2_int min2_int max_two min_two max_three min_three max_four min_four
set_option linter.unusedVariables false
set_option linter.unusedSimpArgs false
mutual
def broadsheetref20_hex.j0 : Nat → Int → Bool → Option (Int)
  | 0, _, _ => none
  | k + 1, x0, x3 => if x3 = true then (some (wrap64 ((wrap64 (x0)) - 48))) else (if x0 ≥ 65 then (broadsheetref20_hex.j1 k x0 (decide (x0 ≤ 70))) else (broadsheetref20_hex.j1 k x0 false))
def broadsheetref20_hex.j1 : Nat → Int → Bool → Option (Int)
  | 0, _, _ => none
  | k + 1, x0, x13 => if x13 = true then (some (wrap64 ((wrap64 (x0)) - 55))) else (if x0 ≥ 97 then (if x0 ≤ 102 then (some (wrap64 ((wrap64 (x0)) - 87))) else (some (-1))) else (some (-1)))
end
def broadsheetref20_hex.f (k : Nat) (a0 : Int) : Option (Int) := if a0 ≥ 48 then (broadsheetref20_hex.j0 k a0 (decide (a0 ≤ 57))) else (broadsheetref20_hex.j0 k a0 false)
set_option maxHeartbeats 8000000 in
set_option maxRecDepth 100000 in
theorem broadsheetref20_hex.calls (k : Nat) (a0 : Int) (r : Int) (w : World) (h : broadsheetref20_hex.f k a0 = some r) :
  Calls Tryz.prog 49 #[.int .u8 a0] w fun e w' => e = .returned (.int .i64 r) ∧ Drawn0 w w' := by
 have H : (if a0 ≥ 48 then (broadsheetref20_hex.j0 k a0 (decide (a0 ≤ 57))) else (broadsheetref20_hex.j0 k a0 false)) = some r := h
 clear h
 have HC2 := Aside0.mk H
 clear H
 go_enter Tryz.func49, Tryz.ntmps49
 go_upto_region 1 with (fail)
 go_cut [3] (fun v3 wc => ∃ (kq : Nat) (x3_1 : Bool), v3 = .bool x3_1 ∧ Aside0 (broadsheetref20_hex.j0 kq a0 x3_1 = some r) ∧ Aside0 (kq ≤ k) ∧ Drawn0 w wc)
 case first =>
  have H := HC2.out
  clear HC2
  by_cases c3 : a0 ≥ 48
  ·rw [if_pos c3] at H
   have c3b0 : decide (48 ≤ a0) = true := decide_eq_true c3
   clear c3
   (first | rw [c3b0] | (simp only [i64_w, i32_w]; rw [c3b0]) | skip)
   have H' := Aside0.mk H
   clear H
   go_wp2
   go_meet
   case rel => exact ⟨_, (decide (a0 ≤ 57)), zb4, H', ⟨by first | omega | exact Nat.le_refl _⟩, by repeat (first | exact Drawn0.refl _ | apply Drawn0.step)⟩
  ·rw [if_neg c3] at H
   have c3b0 : decide (48 ≤ a0) = false := decide_eq_false c3
   clear c3
   (first | rw [c3b0] | (simp only [i64_w, i32_w]; rw [c3b0]) | skip)
   have H' := Aside0.mk H
   clear H
   go_wp2
   go_meet
   case rel => exact ⟨_, (false), zb4, H', ⟨by first | omega | exact Nat.le_refl _⟩, by repeat (first | exact Drawn0.refl _ | apply Drawn0.step)⟩
 case rest =>
  clear HC2
  try clear p2
  try clear c3
  try clear c3b0
  obtain ⟨kq, x3_1, rfl, HA, HJ1, ⟨mc1, rfl⟩⟩ := hcut
  cases kq with
  | zero => exact absurd HA.out (by simp [broadsheetref20_hex.j0])
  | succ kj1 =>
   have H := HA.out
   clear HA
   simp only [broadsheetref20_hex.j0] at H
   by_cases c4 : x3_1 = true
   ·subst c4
    replace H : (some (wrap64 ((wrap64 (a0)) - 48))) = some r := by rw [if_pos rfl] at H; exact H
    obtain rfl := Option.some.inj H
    go_wp2
    go_ret
    exact ⟨by first | rfl | (simp; done) | (simp [*]; done), by repeat (first | exact Drawn0.refl _ | apply Drawn0.step)⟩
   ·replace c4 := Bool.eq_false_iff.mpr c4
    subst c4
    replace H : (if a0 ≥ 65 then (broadsheetref20_hex.j1 kj1 a0 (decide (a0 ≤ 70))) else (broadsheetref20_hex.j1 kj1 a0 false)) = some r := by rw [if_neg (show ¬ (false = true) by decide)] at H; exact H
    have HC5 := Aside0.mk H
    clear H
    go_upto_region 3 with (fail)
    go_cut [13] (fun v13 wc => ∃ (kq : Nat) (x13_4 : Bool), v13 = .bool x13_4 ∧ Aside0 (broadsheetref20_hex.j1 kq a0 x13_4 = some r) ∧ Aside0 (kq ≤ kj1) ∧ Drawn0 w wc)
    case first =>
     have H := HC5.out
     clear HC5
     by_cases c6 : a0 ≥ 65
     ·rw [if_pos c6] at H
      have c6b0 : decide (65 ≤ a0) = true := decide_eq_true c6
      clear c6
      (first | rw [c6b0] | (simp only [i64_w, i32_w]; rw [c6b0]) | skip)
      have H' := Aside0.mk H
      clear H
      go_wp2
      go_meet
      case rel => exact ⟨_, (decide (a0 ≤ 70)), zb4, H', ⟨by have := HJ1.out; first | omega | exact Nat.le_refl _⟩, by repeat (first | exact Drawn0.refl _ | apply Drawn0.step)⟩
     ·rw [if_neg c6] at H
      have c6b0 : decide (65 ≤ a0) = false := decide_eq_false c6
      clear c6
      (first | rw [c6b0] | (simp only [i64_w, i32_w]; rw [c6b0]) | skip)
      have H' := Aside0.mk H
      clear H
      go_wp2
      go_meet
      case rel => exact ⟨_, (false), zb4, H', ⟨by have := HJ1.out; first | omega | exact Nat.le_refl _⟩, by repeat (first | exact Drawn0.refl _ | apply Drawn0.step)⟩
    case rest =>
     clear HC5
     try clear c1
     try clear p2
     try clear c3
     try clear c3b0
     try clear c4
     try clear c6
     try clear c6b0
     try clear p6
     try clear p2
     obtain ⟨kq, x13_4, rfl, HA, HJ4, ⟨mc4, rfl⟩⟩ := hcut
     cases kq with
     | zero => exact absurd HA.out (by simp [broadsheetref20_hex.j1])
     | succ kj4 =>
      have H := HA.out
      clear HA
      simp only [broadsheetref20_hex.j1] at H
      by_cases c7 : x13_4 = true
      ·subst c7
       replace H : (some (wrap64 ((wrap64 (a0)) - 55))) = some r := by rw [if_pos rfl] at H; exact H
       obtain rfl := Option.some.inj H
       go_wp2
       go_ret
       exact ⟨by first | rfl | (simp; done) | (simp [*]; done), by repeat (first | exact Drawn0.refl _ | apply Drawn0.step)⟩
      ·replace c7 := Bool.eq_false_iff.mpr c7
       subst c7
       replace H : (if a0 ≥ 97 then (if a0 ≤ 102 then (some (wrap64 ((wrap64 (a0)) - 87))) else (some (-1))) else (some (-1))) = some r := by rw [if_neg (show ¬ (false = true) by decide)] at H; exact H
       by_cases c8 : a0 ≥ 97
       ·rw [if_pos c8] at H
        have c8b0 : decide (97 ≤ a0) = true := decide_eq_true c8
        clear c8
        by_cases c9 : a0 ≤ 102
        ·rw [if_pos c9] at H
         have c9b0 : decide (a0 ≤ 102) = true := decide_eq_true c9
         clear c9
         obtain rfl := Option.some.inj H
         go_wp2
         go_ret
         exact ⟨by first | rfl | (simp; done) | (simp [*]; done), by repeat (first | exact Drawn0.refl _ | apply Drawn0.step)⟩
        ·rw [if_neg c9] at H
         have c9b0 : decide (a0 ≤ 102) = false := decide_eq_false c9
         clear c9
         obtain rfl := Option.some.inj H
         go_wp2
         go_ret
         exact ⟨by first | rfl | (simp; done) | (simp [*]; done), by repeat (first | exact Drawn0.refl _ | apply Drawn0.step)⟩
       ·rw [if_neg c8] at H
        have c8b0 : decide (97 ≤ a0) = false := decide_eq_false c8
        clear c8
        obtain rfl := Option.some.inj H
        go_wp2
        go_ret
        exact ⟨by first | rfl | (simp; done) | (simp [*]; done), by repeat (first | exact Drawn0.refl _ | apply Drawn0.step)⟩
mutual
def broadsheetref20_Percent.l0 : Nat → ByteArray → List Int → Int → Option (ByteArray × Bool)
  | 0, _, _, _ => none
  | k + 1, x0, x4, x5 => if x5 < (x0.size : Int) then (if 0 ≤ x5 then (if (bt x0 x5) = 37 then (if (wrap64 (x5 + 2)) ≥ (x0.size : Int) then (broadsheetref20_Percent.j1 k x0 x4 x5 true) else (if 0 ≤ (wrap64 (x5 + 1)) then (if (wrap64 (x5 + 1)) < (x0.size : Int) then ((broadsheetref20_hex.f k (bt x0 (wrap64 (x5 + 1)))).bind fun t363 => (if t363 < 0 then (broadsheetref20_Percent.j1 k x0 x4 x5 true) else (if 0 ≤ (wrap64 (x5 + 2)) then (if (wrap64 (x5 + 2)) < (x0.size : Int) then ((broadsheetref20_hex.f k (bt x0 (wrap64 (x5 + 2)))).bind fun t364 => (broadsheetref20_Percent.j1 k x0 x4 x5 (decide (t364 < 0)))) else (none)) else (none)))) else (none)) else (none))) else (if x4.length < 140737488355328 then (broadsheetref20_Percent.l0 k x0 (x4 ++ [bt x0 x5]) (wrap64 (x5 + 1))) else (none))) else (none)) else (some (strOfNums x4, true))
def broadsheetref20_Percent.j1 : Nat → ByteArray → List Int → Int → Bool → Option (ByteArray × Bool)
  | 0, _, _, _, _ => none
  | k + 1, x0, x4, x5, x42 => if x42 = true then (some ((⟨#[]⟩ : ByteArray), false)) else (if 0 ≤ (wrap64 (x5 + 1)) then (if (wrap64 (x5 + 1)) < (x0.size : Int) then ((broadsheetref20_hex.f k (bt x0 (wrap64 (x5 + 1)))).bind fun t365 => (if 0 ≤ (wrap64 (x5 + 2)) then (if (wrap64 (x5 + 2)) < (x0.size : Int) then ((broadsheetref20_hex.f k (bt x0 (wrap64 (x5 + 2)))).bind fun t366 => (if x4.length < 140737488355328 then (broadsheetref20_Percent.l0 k x0 (x4 ++ [(wrap64 ((wrap64 (t365 * 16)) + t366)) % 256]) (wrap64 ((wrap64 (x5 + 2)) + 1))) else (none))) else (none)) else (none))) else (none)) else (none))
end
def broadsheetref20_Percent.f (k : Nat) (a0 : ByteArray) : Option (ByteArray × Bool) := broadsheetref20_Percent.l0 k a0 ([] : List Int) 0
def broadsheetref20_Percent.T9 : Bool × List (List Nat × List Nat) := (true, [([], []), ([], []), ([], []), ([2], [2]), ([1, 3], [1, 3]), ([4], [4]), ([5], [5]), ([], []), ([], []), ([8], [8]), ([7, 9], [7, 9]), ([10, 5], [10]), ([6, 11], [6, 11]), ([12], [12]), ([13], [13]), ([0, 14, 11], [0, 14]), ([15, 15, 0, 1, 2, 3, 4, 5, 6, 7, 8, 9, 10, 11, 12, 13, 14, 15], [0, 15])])
def broadsheetref20_Percent.B9 : List Nat := [0, 0, 0, 4, 14, 30, 62, 0, 0, 256, 896, 1982, 4094, 8190, 16382, 32767, 65535]
theorem broadsheetref20_Percent.tab9 : rtab .any (opsOf Tryz.f21 9) = broadsheetref20_Percent.T9 := by kernel_rfl
theorem broadsheetref20_Percent.bits9 : waitsOk broadsheetref20_Percent.T9.2 broadsheetref20_Percent.B9 = true := by kernel_rfl
set_option maxHeartbeats 8000000 in
set_option maxRecDepth 100000 in
theorem broadsheetref20_Percent.calls (k : Nat) (a0 : ByteArray) (r1 : ByteArray) (r2 : Bool) (w : World) (h : broadsheetref20_Percent.f k a0 = some (r1, r2)) :
  Calls Tryz.prog 21 #[.string a0] w fun e w' => e = .returned (.tuple #[.string r1, .bool r2]) ∧ Below w.heap.size w w' := by
 have HB := Aside0.mk (Below.refl w.heap.size w)
 have H : (broadsheetref20_Percent.l0 k a0 ([] : List Int) 0) = some (r1, r2) := h
 clear h
 have H' := Aside0.mk H
 clear H
 go_enter Tryz.func21, Tryz.ntmps21
 go_wp2
 first | go_loopg [4, 5] k (fun kq v4 v5 w' => ∃ (x4_1 : List Int) (x5_1 : Int), v5 = .int .i64 x5_1 ∧ Aside0 (broadsheetref20_Percent.l0 kq a0 x4_1 x5_1 = some (r1, r2)) ∧ Aside0 (kq ≤ k) ∧ Aside0 (Kd.R (Kd.int .u8) 5 w' w.heap.size (fun _ => True) v4 x4_1) ∧ Aside0 (Below w.heap.size w w')) | (go_simp; go_loopg [4, 5] k (fun kq v4 v5 w' => ∃ (x4_1 : List Int) (x5_1 : Int), v5 = .int .i64 x5_1 ∧ Aside0 (broadsheetref20_Percent.l0 kq a0 x4_1 x5_1 = some (r1, r2)) ∧ Aside0 (kq ≤ k) ∧ Aside0 (Kd.R (Kd.int .u8) 5 w' w.heap.size (fun _ => True) v4 x4_1) ∧ Aside0 (Below w.heap.size w w')))
 case atStart => exact ⟨(([] : List Int)), (0), zb4, H', ⟨Nat.le_refl _⟩, ⟨by first | exact Kd.R_nil _ _ _ _ _ | exact Kd.N_nil _ _ _ _ _ | exact Kd.V_nil _ _ _ _ _ | exact Kd.Q_nil _ _ _ _ _ | exact Kd.S_nil _ _ _ _ _⟩, ⟨by repeat (first | (with_reducible first | exact HB.out | apply below_alloc | apply pw_below_drewN | apply below_drew1) | exact HB.out)⟩⟩
 case round =>
  clear H'
  obtain ⟨x4_1, x5_1, rfl, HA, HK1, HO_4, HB⟩ := hrel
  cases gk with
  | zero => exact absurd HA.out (by simp [broadsheetref20_Percent.l0])
  | succ k1 =>
   have H := HA.out
   clear HA
   simp only [broadsheetref20_Percent.l0] at H
   by_cases c2 : x5_1 < (a0.size : Int)
   ·rw [if_pos c2] at H
    have c2b0 : decide (x5_1 < (a0.size : Int)) = true := decide_eq_true c2
    clear c2
    by_cases c3 : 0 ≤ x5_1
    ·rw [if_pos c3] at H
     have c3b0 : decide (0 ≤ x5_1) = true := decide_eq_true c3
     clear c3
     by_cases c5 : (bt a0 x5_1) = 37
     ·rw [if_pos c5] at H
      have c5b0 : ((bt a0 x5_1) == 37) = true := beq_iff_eq.mpr c5
      have c5b1 : ((bt a0 x5_1) != 37) = false := bne_eq_false_iff_eq.mpr c5
      clear c5
      have HC6 := Aside0.mk H
      clear H
      have p4 : 0 ≤ (x5_1 : Int) := of_decide_eq_true zb2
      have q4 : x5_1 < (a0.size : Int) := of_decide_eq_true zb2
      have hx4 := bt_at a0 x5_1
      replace p4 := eq_true p4
      replace q4 := eq_true q4
      go_upto_region 7 with (fail)
      go_cut [42] (fun v42 wc => ∃ (kq : Nat) (x42_5 : Bool), v42 = .bool x42_5 ∧ Aside0 (broadsheetref20_Percent.j1 kq a0 x4_1 x5_1 x42_5 = some (r1, r2)) ∧ Aside0 (kq ≤ k1) ∧ Aside0 (Kd.R (Kd.int .u8) 5 wc w.heap.size (fun _ => True) u4 x4_1) ∧ Aside0 (Below w.heap.size w wc))
      case first =>
       have H := HC6.out
       clear HC6
       by_cases c7 : (wrap64 (x5_1 + 2)) ≥ (a0.size : Int)
       ·rw [if_pos c7] at H
        have c7b0 : decide ((a0.size : Int) ≤ (wrap64 (x5_1 + 2))) = true := decide_eq_true c7
        clear c7
        (first | rw [c7b0] | (simp only [i64_w, i32_w]; rw [c7b0]) | skip)
        have H' := Aside0.mk H
        clear H
        go_wp2
        go_meet
        case rel => exact ⟨_, (true), zb4, H', ⟨by have := HK1.out; first | omega | exact Nat.le_refl _⟩, ⟨by (with_reducible repeat (first | apply Kd.R_alloc | apply Kd.R_drewN | apply Kd.R_drew)); exact HO_4.out⟩, ⟨by repeat (first | (with_reducible first | exact HB.out | apply below_alloc | apply pw_below_drewN | apply below_drew1) | exact HB.out)⟩⟩
       ·rw [if_neg c7] at H
        have c7b0 : decide ((a0.size : Int) ≤ (wrap64 (x5_1 + 2))) = false := decide_eq_false c7
        clear c7
        (first | rw [c7b0] | (simp only [i64_w, i32_w]; rw [c7b0]) | skip)
        obtain ⟨ji8, hji8⟩ : ∃ j_ : Int, (wrap64 (x5_1 + 1)) = j_ := ⟨_, rfl⟩
        replace H : (if 0 ≤ (ji8) then (if (ji8) < (a0.size : Int) then ((broadsheetref20_hex.f k1 (bt a0 (ji8))).bind fun t363 => (if t363 < 0 then (broadsheetref20_Percent.j1 k1 a0 x4_1 x5_1 true) else (if 0 ≤ (wrap64 (x5_1 + 2)) then (if (wrap64 (x5_1 + 2)) < (a0.size : Int) then ((broadsheetref20_hex.f k1 (bt a0 (wrap64 (x5_1 + 2)))).bind fun t364 => (broadsheetref20_Percent.j1 k1 a0 x4_1 x5_1 (decide (t364 < 0)))) else (none)) else (none)))) else (none)) else (none)) = some (r1, r2) := by first | (rw [hji8] at H; exact H) | (simp only [hji8] at H ⊢; exact H)
        have hji8w : (IntKind.i64.wrap (x5_1 + 1)) = ji8 := (i64_w _).trans hji8
        by_cases c9 : 0 ≤ (ji8)
        ·rw [if_pos c9] at H
         have c9b0 : decide (0 ≤ (ji8)) = true := decide_eq_true c9
         clear c9
         by_cases c10 : (ji8) < (a0.size : Int)
         ·rw [if_pos c10] at H
          have c10b0 : decide ((ji8) < (a0.size : Int)) = true := decide_eq_true c10
          clear c10
          replace H := Option.bind_eq_some_iff.mp H
          obtain ⟨t363, A120, H⟩ := H
          replace H : (if t363 < 0 then (broadsheetref20_Percent.j1 k1 a0 x4_1 x5_1 true) else (if 0 ≤ (wrap64 (x5_1 + 2)) then (if (wrap64 (x5_1 + 2)) < (a0.size : Int) then ((broadsheetref20_hex.f k1 (bt a0 (wrap64 (x5_1 + 2)))).bind fun t364 => (broadsheetref20_Percent.j1 k1 a0 x4_1 x5_1 (decide (t364 < 0)))) else (none)) else (none))) = some (r1, r2) := H
          have A12 := Aside0.mk A120
          clear A120
          by_cases c13 : t363 < 0
          ·rw [if_pos c13] at H
           have c13b0 : decide (t363 < 0) = true := decide_eq_true c13
           clear c13
           have H' := Aside0.mk H
           clear H
           have p11 : 0 ≤ ((ji8) : Int) := of_decide_eq_true zb2
           have q11 : (ji8) < (a0.size : Int) := of_decide_eq_true zb2
           have hx11 := bt_at a0 (ji8)
           replace p11 := eq_true p11
           replace q11 := eq_true q11
           go_wp2_with (first | (go_at_call 49; (with_reducible refine (broadsheetref20_hex.calls k1 (bt a0 (ji8)) t363 _ A12.out).mono ?_); rintro e w' ⟨rfl, ⟨nd, rfl⟩⟩))
           go_meet
           case rel => exact ⟨_, (true), zb4, H', ⟨by have := HK1.out; first | omega | exact Nat.le_refl _⟩, ⟨by (with_reducible repeat (first | apply Kd.R_alloc | apply Kd.R_drewN | apply Kd.R_drew)); exact HO_4.out⟩, ⟨by repeat (first | (with_reducible first | exact HB.out | apply below_alloc | apply pw_below_drewN | apply below_drew1) | exact HB.out)⟩⟩
          ·rw [if_neg c13] at H
           have c13b0 : decide (t363 < 0) = false := decide_eq_false c13
           clear c13
           obtain ⟨ji14, hji14⟩ : ∃ j_ : Int, (wrap64 (x5_1 + 2)) = j_ := ⟨_, rfl⟩
           replace H : (if 0 ≤ (ji14) then (if (ji14) < (a0.size : Int) then ((broadsheetref20_hex.f k1 (bt a0 (ji14))).bind fun t364 => (broadsheetref20_Percent.j1 k1 a0 x4_1 x5_1 (decide (t364 < 0)))) else (none)) else (none)) = some (r1, r2) := by first | (rw [hji14] at H; exact H) | (simp only [hji14] at H ⊢; exact H)
           (try rw [hji14] at c7b0)
           (try rw [hji14] at A12)
           have hji14w : (IntKind.i64.wrap (x5_1 + 2)) = ji14 := (i64_w _).trans hji14
           by_cases c15 : 0 ≤ (ji14)
           ·rw [if_pos c15] at H
            have c15b0 : decide (0 ≤ (ji14)) = true := decide_eq_true c15
            clear c15
            by_cases c16 : (ji14) < (a0.size : Int)
            ·rw [if_pos c16] at H
             have c16b0 : decide ((ji14) < (a0.size : Int)) = true := decide_eq_true c16
             clear c16
             replace H := Option.bind_eq_some_iff.mp H
             obtain ⟨t364, A180, H⟩ := H
             replace H : (broadsheetref20_Percent.j1 k1 a0 x4_1 x5_1 (decide (t364 < 0))) = some (r1, r2) := H
             have A18 := Aside0.mk A180
             clear A180
             have H' := Aside0.mk H
             clear H
             have p11 : 0 ≤ ((ji8) : Int) := of_decide_eq_true zb2
             have q11 : (ji8) < (a0.size : Int) := of_decide_eq_true zb2
             have hx11 := bt_at a0 (ji8)
             replace p11 := eq_true p11
             replace q11 := eq_true q11
             go_wp2_with (first | (go_at_call 49; (with_reducible refine (broadsheetref20_hex.calls k1 (bt a0 (ji8)) t363 _ A12.out).mono ?_); rintro e w' ⟨rfl, ⟨nd, rfl⟩⟩; have p17 : 0 ≤ ((ji14) : Int) := of_decide_eq_true zb2; have q17 : (ji14) < (a0.size : Int) := of_decide_eq_true zb2; have hx17 := bt_at a0 (ji14); replace p17 := eq_true p17; replace q17 := eq_true q17) | (go_at_call 49; (with_reducible refine (broadsheetref20_hex.calls k1 (bt a0 (ji14)) t364 _ A18.out).mono ?_); rintro e w' ⟨rfl, ⟨nd, rfl⟩⟩))
             go_meet
             case rel => exact ⟨_, (decide (t364 < 0)), zb4, H', ⟨by have := HK1.out; first | omega | exact Nat.le_refl _⟩, ⟨by (with_reducible repeat (first | apply Kd.R_alloc | apply Kd.R_drewN | apply Kd.R_drew)); exact HO_4.out⟩, ⟨by repeat (first | (with_reducible first | exact HB.out | apply below_alloc | apply pw_below_drewN | apply below_drew1) | exact HB.out)⟩⟩
            ·rw [if_neg c16] at H
             exact absurd H zb22
           ·rw [if_neg c15] at H
            exact absurd H zb22
         ·rw [if_neg c10] at H
          exact absurd H zb22
        ·rw [if_neg c9] at H
         exact absurd H zb22
      case rest =>
       clear HC6
       try clear c1
       try clear p1
       try clear q1
       try clear hx1
       try clear c2
       try clear c2b0
       try clear p2
       try clear c3
       try clear c3b0
       try clear p4
       try clear q4
       try clear hx4
       try clear c5
       try clear c5b0
       try clear c5b1
       try clear p6
       try clear c7
       try clear c7b0
       try clear c9
       try clear c9b0
       try clear c10
       try clear c10b0
       try clear p11
       try clear q11
       try clear hx11
       try clear c13
       try clear c13b0
       try clear c15
       try clear c15b0
       try clear c16
       try clear c16b0
       try clear p17
       try clear q17
       try clear hx17
       try clear p11
       try clear p17
       try clear p4
       try clear q11
       try clear q17
       try clear q4
       obtain ⟨kq, x42_5, rfl, HA, HJ5, HO_4, HB⟩ := hcut
       cases kq with
       | zero => exact absurd HA.out (by simp [broadsheetref20_Percent.j1])
       | succ kj5 =>
        have H := HA.out
        clear HA
        simp only [broadsheetref20_Percent.j1] at H
        by_cases c19 : x42_5 = true
        ·subst c19
         replace H : (some ((⟨#[]⟩ : ByteArray), false)) = some (r1, r2) := by rw [if_pos rfl] at H; exact H
         simp only [Option.some.injEq, Prod.mk.injEq] at H
         obtain ⟨rfl, rfl⟩ := H
         go_wp2
         go_ret2
         exact ⟨zb3, zb0⟩
        ·replace c19 := Bool.eq_false_iff.mpr c19
         subst c19
         replace H : (if 0 ≤ (wrap64 (x5_1 + 1)) then (if (wrap64 (x5_1 + 1)) < (a0.size : Int) then ((broadsheetref20_hex.f kj5 (bt a0 (wrap64 (x5_1 + 1)))).bind fun t365 => (if 0 ≤ (wrap64 (x5_1 + 2)) then (if (wrap64 (x5_1 + 2)) < (a0.size : Int) then ((broadsheetref20_hex.f kj5 (bt a0 (wrap64 (x5_1 + 2)))).bind fun t366 => (if x4_1.length < 140737488355328 then (broadsheetref20_Percent.l0 kj5 a0 (x4_1 ++ [(wrap64 ((wrap64 (t365 * 16)) + t366)) % 256]) (wrap64 ((wrap64 (x5_1 + 2)) + 1))) else (none))) else (none)) else (none))) else (none)) else (none)) = some (r1, r2) := by rw [if_neg (show ¬ (false = true) by decide)] at H; exact H
         obtain ⟨ji20, hji20⟩ : ∃ j_ : Int, (wrap64 (x5_1 + 1)) = j_ := ⟨_, rfl⟩
         replace H : (if 0 ≤ (ji20) then (if (ji20) < (a0.size : Int) then ((broadsheetref20_hex.f kj5 (bt a0 (ji20))).bind fun t365 => (if 0 ≤ (wrap64 (x5_1 + 2)) then (if (wrap64 (x5_1 + 2)) < (a0.size : Int) then ((broadsheetref20_hex.f kj5 (bt a0 (wrap64 (x5_1 + 2)))).bind fun t366 => (if x4_1.length < 140737488355328 then (broadsheetref20_Percent.l0 kj5 a0 (x4_1 ++ [(wrap64 ((wrap64 (t365 * 16)) + t366)) % 256]) (wrap64 ((wrap64 (x5_1 + 2)) + 1))) else (none))) else (none)) else (none))) else (none)) else (none)) = some (r1, r2) := by first | (rw [hji20] at H; exact H) | (simp only [hji20] at H ⊢; exact H)
         have hji20w : (IntKind.i64.wrap (x5_1 + 1)) = ji20 := (i64_w _).trans hji20
         by_cases c21 : 0 ≤ (ji20)
         ·rw [if_pos c21] at H
          have c21b0 : decide (0 ≤ (ji20)) = true := decide_eq_true c21
          clear c21
          by_cases c22 : (ji20) < (a0.size : Int)
          ·rw [if_pos c22] at H
           have c22b0 : decide ((ji20) < (a0.size : Int)) = true := decide_eq_true c22
           clear c22
           replace H := Option.bind_eq_some_iff.mp H
           obtain ⟨t365, A240, H⟩ := H
           replace H : (if 0 ≤ (wrap64 (x5_1 + 2)) then (if (wrap64 (x5_1 + 2)) < (a0.size : Int) then ((broadsheetref20_hex.f kj5 (bt a0 (wrap64 (x5_1 + 2)))).bind fun t366 => (if x4_1.length < 140737488355328 then (broadsheetref20_Percent.l0 kj5 a0 (x4_1 ++ [(wrap64 ((wrap64 (t365 * 16)) + t366)) % 256]) (wrap64 ((wrap64 (x5_1 + 2)) + 1))) else (none))) else (none)) else (none)) = some (r1, r2) := H
           have A24 := Aside0.mk A240
           clear A240
           obtain ⟨ji25, hji25⟩ : ∃ j_ : Int, (wrap64 (x5_1 + 2)) = j_ := ⟨_, rfl⟩
           replace H : (if 0 ≤ (ji25) then (if (ji25) < (a0.size : Int) then ((broadsheetref20_hex.f kj5 (bt a0 (ji25))).bind fun t366 => (if x4_1.length < 140737488355328 then (broadsheetref20_Percent.l0 kj5 a0 (x4_1 ++ [(wrap64 ((wrap64 (t365 * 16)) + t366)) % 256]) (wrap64 ((ji25) + 1))) else (none))) else (none)) else (none)) = some (r1, r2) := by first | (rw [hji25] at H; exact H) | (simp only [hji25] at H ⊢; exact H)
           (try rw [hji25] at A24)
           have hji25w : (IntKind.i64.wrap (x5_1 + 2)) = ji25 := (i64_w _).trans hji25
           by_cases c26 : 0 ≤ (ji25)
           ·rw [if_pos c26] at H
            have c26b0 : decide (0 ≤ (ji25)) = true := decide_eq_true c26
            clear c26
            by_cases c27 : (ji25) < (a0.size : Int)
            ·rw [if_pos c27] at H
             have c27b0 : decide ((ji25) < (a0.size : Int)) = true := decide_eq_true c27
             clear c27
             replace H := Option.bind_eq_some_iff.mp H
             obtain ⟨t366, A290, H⟩ := H
             replace H : (if x4_1.length < 140737488355328 then (broadsheetref20_Percent.l0 kj5 a0 (x4_1 ++ [(wrap64 ((wrap64 (t365 * 16)) + t366)) % 256]) (wrap64 ((ji25) + 1))) else (none)) = some (r1, r2) := H
             have A29 := Aside0.mk A290
             clear A290
             by_cases c30 : x4_1.length < 140737488355328
             ·rw [if_pos c30] at H
              have LMc30 := Aside0.mk c30
              clear c30
              obtain ⟨y367, hy367⟩ : ∃ y_ : List Int, y_ = (x4_1 ++ [(wrap64 ((wrap64 (t365 * 16)) + t366)) % 256]) := ⟨_, rfl⟩
              replace H : (broadsheetref20_Percent.l0 kj5 a0 y367 (wrap64 ((ji25) + 1))) = some (r1, r2) := by first | (rw [hy367]; with_reducible exact H) | (have H2_ := (Option.bind_some _ _).symm.trans H; rw [hy367]; with_reducible exact H2_) | (have H2_ := (Option.bind_some _ _).symm.trans H; with_reducible exact H2_) | with_reducible exact H | (rw [hy367]; exact H) | exact H
              have Ny367 := Aside0.mk hy367
              clear hy367
              have H' := Aside0.mk H
              clear H
              try go_wp2
              have n0_ := Aside0.mk (Kd.R_drew HO_4.out)
              have n1_ := Aside0.mk (below_drew1 HB.out)
              clear HO_4
              clear HB
              have HO_4 := n0_
              have HB := n1_
              clear n0_ n1_
              have p23 : 0 ≤ ((ji20) : Int) := of_decide_eq_true zb2
              have q23 : (ji20) < (a0.size : Int) := of_decide_eq_true zb2
              have hx23 := bt_at a0 (ji20)
              replace p23 := eq_true p23
              replace q23 := eq_true q23
              have p28 : 0 ≤ ((ji25) : Int) := of_decide_eq_true zb2
              have q28 : (ji25) < (a0.size : Int) := of_decide_eq_true zb2
              have hx28 := bt_at a0 (ji25)
              replace p28 := eq_true p28
              replace q28 := eq_true q28
              refine start_ (n := 17) (S := fun w' => True) (ds := []) #[false, false, false, false, false, false, false, false, false, false, false, false, false, false, false, false, false] zb12 rfl rfl trivial (fun hHeld => ?_); refine with_tabW broadsheetref20_Percent.tab9 broadsheetref20_Percent.bits9 (fun HT_ HW_ => ?_)
              generalize wc.drew = w31 at HO_4 HB hHeld ⊢
              refine pure_ (i := 0) (N := some 43) (v := ?_) (a' := ?_) #[true, false, false, false, false, false, false, false, false, false, false, false, false, false, false, false, false] rfl rfl (any_of HT_.out zb12) (fun _ _ _ h => h) (Or.inl ⟨by rfl, ?_⟩) ?_ ?_
              rotate_left
              ·intro w'
               go_simp
               first | with_reducible rfl | (rw [if_neg zb6])
              rotate_left
              ·simp only [Act.put, List.setIfInBounds_toArray, List.set_cons_zero, List.set_cons_succ, i64_w, i32_w]
               rfl
              refine pure_ (i := 1) (N := some 44) (v := ?_) (a' := ?_) #[true, true, false, false, false, false, false, false, false, false, false, false, false, false, false, false, false] rfl rfl (any_of HT_.out zb12) (fun _ _ _ h => h) (Or.inl ⟨by rfl, ?_⟩) ?_ ?_
              rotate_left
              ·intro w'
               go_simp
               first | with_reducible rfl | (rw [if_neg zb6])
              rotate_left
              ·simp only [Act.put, List.setIfInBounds_toArray, List.set_cons_zero, List.set_cons_succ, i64_w, i32_w]
               rfl
              refine pure_ (i := 2) (N := some 45) (v := ?_) (a' := ?_) #[true, true, true, false, false, false, false, false, false, false, false, false, false, false, false, false, false] rfl rfl (any_of HT_.out zb12) (fun _ _ _ h => h) (Or.inl ⟨by rfl, ?_⟩) ?_ ?_
              rotate_left
              ·intro w'
               go_simp
               first | with_reducible rfl | (rw [if_neg zb6])
              rotate_left
              ·simp only [Act.put, List.setIfInBounds_toArray, List.set_cons_zero, List.set_cons_succ, i64_w, i32_w]
               rfl
              refine pure_ (i := 3) (N := some 46) (v := ?_) (a' := ?_) #[true, true, true, true, false, false, false, false, false, false, false, false, false, false, false, false, false] rfl rfl (any_of HT_.out zb12) (fun _ _ _ h => h) (Or.inl ⟨by rfl, ?_⟩) ?_ ?_
              rotate_left
              ·intro w'
               go_simp
               first | with_reducible rfl | (rw [if_neg zb6])
              rotate_left
              ·simp only [Act.put, List.setIfInBounds_toArray, List.set_cons_zero, List.set_cons_succ, i64_w, i32_w]
               rfl
              refine pure_ (i := 7) (N := some 50) (v := ?_) (a' := ?_) #[true, true, true, true, false, false, false, true, false, false, false, false, false, false, false, false, false] rfl rfl (any_of HT_.out zb12) (fun _ _ _ h => h) (Or.inl ⟨by rfl, ?_⟩) ?_ ?_
              rotate_left
              ·intro w'
               go_simp
               first | with_reducible rfl | (rw [if_neg zb6])
              rotate_left
              ·simp only [Act.put, List.setIfInBounds_toArray, List.set_cons_zero, List.set_cons_succ, i64_w, i32_w]
               rfl
              refine pure_ (i := 8) (N := some 51) (v := ?_) (a' := ?_) #[true, true, true, true, false, false, false, true, true, false, false, false, false, false, false, false, false] rfl rfl (any_of HT_.out zb12) (fun _ _ _ h => h) (Or.inl ⟨by rfl, ?_⟩) ?_ ?_
              rotate_left
              ·intro w'
               go_simp
               first | with_reducible rfl | (rw [if_neg zb6])
              rotate_left
              ·simp only [Act.put, List.setIfInBounds_toArray, List.set_cons_zero, List.set_cons_succ, i64_w, i32_w]
               rfl
              refine pure_ (i := 9) (N := some 52) (v := ?_) (a' := ?_) #[true, true, true, true, false, false, false, true, true, true, false, false, false, false, false, false, false] rfl rfl (any_of HT_.out zb12) (fun _ _ _ h => h) (Or.inl ⟨by rfl, ?_⟩) ?_ ?_
              rotate_left
              ·intro w'
               go_simp
               first | with_reducible rfl | (rw [if_neg zb6])
              rotate_left
              ·simp only [Act.put, List.setIfInBounds_toArray, List.set_cons_zero, List.set_cons_succ, i64_w, i32_w]
               rfl
              refine take_ (i := 4) (N := some 47) (v := ?_) (a' := ?_) #[true, true, true, true, true, false, false, true, true, true, false, false, false, false, false, false, false] rfl rfl (take_ofW HT_.out HW_.out zb12) (fun _ _ _ h => h) (Or.inl ⟨by rfl, ?_⟩) hHeld ?_ ?_
              rotate_left
              ·intro w' _
               go_simp
               first | with_reducible rfl | (rw [if_neg zb6])
              rotate_left
              ·simp only [Act.put, List.setIfInBounds_toArray, List.set_cons_zero, List.set_cons_succ, i64_w, i32_w]
               rfl
              refine take_ (i := 10) (N := some 53) (v := ?_) (a' := ?_) #[true, true, true, true, true, false, false, true, true, true, true, false, false, false, false, false, false] rfl rfl (take_ofW HT_.out HW_.out zb12) (fun _ _ _ h => h) (Or.inl ⟨by rfl, ?_⟩) hHeld ?_ ?_
              rotate_left
              ·intro w' _
               go_simp
               first | with_reducible rfl | (rw [if_neg zb6])
              rotate_left
              ·simp only [Act.put, List.setIfInBounds_toArray, List.set_cons_zero, List.set_cons_succ, i64_w, i32_w]
               rfl
              refine one_ (i := 5) (N := some 48) #[true, true, true, true, true, true, false, true, true, true, true, false, false, false, false, false, false] rfl rfl (one_of HT_.out zb12) zb19 (fun K hK => ?_)
              refine goes_ Tryz.func49 zb12 rfl #[.int .u8 (bt a0 (ji20))] (by rfl) rfl rfl (by (try simp only [List.map_toArray, List.map_cons, List.map_nil]); first | done | (simp only [hji20]; rfl) | rfl | (simp only [List.length_drop, List.length_take]; rfl)) ?_
              with_reducible refine (broadsheetref20_hex.calls kj5 (bt a0 (ji20)) t365 _ A24.out).mono ?_
              rintro e w' ⟨rfl, ⟨nd, rfl⟩⟩
              refine ⟨_, rfl, ?_⟩
              refine hK.out _ _ trivial (fun hHeld => ?_)
              clear hK K
              refine norm_ (a' := ?_) ?_ ?_
              rotate_left
              ·show Act.put _ (some 48) _ = _
               simp only [Act.put, List.setIfInBounds_toArray, List.set_cons_zero, List.set_cons_succ, i64_w, i32_w]
               rfl
              refine pure_ (i := 6) (N := some 49) (v := ?_) (a' := ?_) #[true, true, true, true, true, true, true, true, true, true, true, false, false, false, false, false, false] rfl rfl (any_of HT_.out zb12) (fun _ _ _ h => h) (Or.inl ⟨by rfl, ?_⟩) ?_ ?_
              rotate_left
              ·intro w'
               go_simp
               first | with_reducible rfl | (rw [if_neg zb6])
              rotate_left
              ·simp only [Act.put, List.setIfInBounds_toArray, List.set_cons_zero, List.set_cons_succ, i64_w, i32_w]
               rfl
              refine one_ (i := 11) (N := some 54) #[true, true, true, true, true, true, true, true, true, true, true, true, false, false, false, false, false] rfl rfl (one_of HT_.out zb12) zb19 (fun K hK => ?_)
              refine goes_ Tryz.func49 zb12 rfl #[.int .u8 (bt a0 (ji25))] (by rfl) rfl rfl (by (try simp only [List.map_toArray, List.map_cons, List.map_nil]); first | done | (simp only [hji25]; rfl) | rfl | (simp only [List.length_drop, List.length_take]; rfl)) ?_
              with_reducible refine (broadsheetref20_hex.calls kj5 (bt a0 (ji25)) t366 _ A29.out).mono ?_
              rintro e w' ⟨rfl, ⟨nd, rfl⟩⟩
              refine ⟨_, rfl, ?_⟩
              refine hK.out _ _ trivial (fun hHeld => ?_)
              clear hK K
              refine norm_ (a' := ?_) ?_ ?_
              rotate_left
              ·show Act.put _ (some 54) _ = _
               simp only [Act.put, List.setIfInBounds_toArray, List.set_cons_zero, List.set_cons_succ, i64_w, i32_w]
               rfl
              refine pure_ (i := 12) (N := some 55) (v := ?_) (a' := ?_) #[true, true, true, true, true, true, true, true, true, true, true, true, true, false, false, false, false] rfl rfl (any_of HT_.out zb12) (fun _ _ _ h => h) (Or.inl ⟨by rfl, ?_⟩) ?_ ?_
              rotate_left
              ·intro w'
               go_simp
               first | with_reducible rfl | (rw [if_neg zb6])
              rotate_left
              ·simp only [Act.put, List.setIfInBounds_toArray, List.set_cons_zero, List.set_cons_succ, i64_w, i32_w]
               rfl
              refine pure_ (i := 13) (N := some 56) (v := ?_) (a' := ?_) #[true, true, true, true, true, true, true, true, true, true, true, true, true, true, false, false, false] rfl rfl (any_of HT_.out zb12) (fun _ _ _ h => h) (Or.inl ⟨by rfl, ?_⟩) ?_ ?_
              rotate_left
              ·intro w'
               go_simp
               first | with_reducible rfl | (rw [if_neg zb6])
              rotate_left
              ·simp only [Act.put, List.setIfInBounds_toArray, List.set_cons_zero, List.set_cons_succ, i64_w, i32_w]
               rfl
              refine one_ (i := 14) (N := some 57) #[true, true, true, true, true, true, true, true, true, true, true, true, true, true, true, false, false] rfl rfl (one_of HT_.out zb12) zb19 (fun K hK => ?_)
              refine value_ (w1 := ?_) (v := ?_) (by rfl) rfl ?_ ?_
              rotate_left 2
              ·go_simp
               constructor
               ·rfl
               ·rfl
              refine hK.out _ _ trivial (fun hHeld => ?_)
              clear hK K
              refine norm_ (a' := ?_) ?_ ?_
              rotate_left
              ·show Act.put _ (some 57) _ = _
               simp only [Act.put, List.setIfInBounds_toArray, List.set_cons_zero, List.set_cons_succ, i64_w, i32_w]
               rfl
              refine one_ (i := 15) (N := some 58) #[true, true, true, true, true, true, true, true, true, true, true, true, true, true, true, true, false] rfl rfl (one_of HT_.out zb12) zb19 (fun K hK => ?_)
              refine Kd.R_append_step (Kd.int .u8) (w0 := w) w.heap.size (by rfl) (.tmp 43) (.tmp 57) 23 5 (.int .u8 0) 1 rfl Tryz.underlying23 info5 rfl zb19 zb16 u4 x4_1 ((wrap64 ((wrap64 (t365 * 16)) + t366)) % 256) [.int .u8 ((wrap64 ((wrap64 (t365 * 16)) + t366)) % 256)] (fun _ => True) (fun _ => False) rfl rfl ?aP (fun _ hk => hk.elim) ?aF ?aO ?aB ?aS ?aL ?_
              (case aP => exact rfl)
              (case aB => exact zb0)
              (case aF => exact (fun _ _ => trivial))
              (case aO => exact zb37)
              (case aS => exact (below_size zb0))
              (case aL => have := LMc30.out; omega)
              intro v368 w32 ho hb hg hat
              rw [← Ny367.out] at ho
              have n0_ := Aside0.mk (hb)
              have n1_ := Aside0.mk (ho)
              clear HB
              clear HO_4
              have HB := n0_
              have HO369 := n1_
              clear n0_ n1_
              clear ho hb hg hat
              refine hK.out _ _ trivial (fun hHeld => ?_)
              clear hK K
              refine norm_ (a' := ?_) ?_ ?_
              rotate_left
              ·show Act.put _ (some 58) _ = _
               simp only [Act.put, List.setIfInBounds_toArray, List.set_cons_zero, List.set_cons_succ, i64_w, i32_w]
               rfl
              refine pure_ (i := 16) (N := some 4) (v := ?_) (a' := ?_) #[true, true, true, true, true, true, true, true, true, true, true, true, true, true, true, true, true] rfl rfl (any_of HT_.out zb12) (fun _ _ _ h => h) (Or.inl ⟨by rfl, ?_⟩) ?_ ?_
              rotate_left
              ·intro w'
               go_simp
               first | with_reducible rfl | (rw [if_neg zb6])
              rotate_left
              ·simp only [Act.put, List.setIfInBounds_toArray, List.set_cons_zero, List.set_cons_succ, i64_w, i32_w]
               rfl
              refine done_ (done_of HT_.out zb12) ?_
              try go_wp2
              go_roundg kj5
              case measure => have := HK1.out; have := HJ5.out; omega
              case rel => exact ⟨(y367), (wrap64 ((ji25) + 1)), (by first | rfl | (simp; done) | (simp only [← hji25] <;> (first | rfl | simp)) | (simp [*]; done)), H', ⟨by have := HK1.out; have := HJ5.out; omega⟩, ⟨by (with_reducible repeat (first | apply Kd.R_alloc | apply Kd.R_drewN | apply Kd.R_drew)); exact HO369.out⟩, ⟨by repeat (first | (with_reducible first | exact HB.out | apply below_alloc | apply pw_below_drewN | apply below_drew1) | exact HB.out)⟩⟩
             ·rw [if_neg c30] at H
              exact absurd H zb22
            ·rw [if_neg c27] at H
             exact absurd H zb22
           ·rw [if_neg c26] at H
            exact absurd H zb22
          ·rw [if_neg c22] at H
           exact absurd H zb22
         ·rw [if_neg c21] at H
          exact absurd H zb22
     ·rw [if_neg c5] at H
      have c5b0 : ((bt a0 x5_1) == 37) = false := beq_eq_false_iff_ne.mpr c5
      have c5b1 : ((bt a0 x5_1) != 37) = true := bne_iff_ne.mpr c5
      by_cases c34 : x4_1.length < 140737488355328
      ·rw [if_pos c34] at H
       have LMc34 := Aside0.mk c34
       clear c34
       obtain ⟨y360, hy360⟩ : ∃ y_ : List Int, y_ = (x4_1 ++ [bt a0 x5_1]) := ⟨_, rfl⟩
       replace H : (broadsheetref20_Percent.l0 k1 a0 y360 (wrap64 (x5_1 + 1))) = some (r1, r2) := by first | (rw [hy360]; with_reducible exact H) | (have H2_ := (Option.bind_some _ _).symm.trans H; rw [hy360]; with_reducible exact H2_) | (have H2_ := (Option.bind_some _ _).symm.trans H; with_reducible exact H2_) | with_reducible exact H | (rw [hy360]; exact H) | exact H
       have Ny360 := Aside0.mk hy360
       clear hy360
       have H' := Aside0.mk H
       clear H
       have p4 : 0 ≤ (x5_1 : Int) := of_decide_eq_true zb2
       have q4 : x5_1 < (a0.size : Int) := of_decide_eq_true zb2
       have hx4 := bt_at a0 x5_1
       replace p4 := eq_true p4
       replace q4 := eq_true q4
       have p33 : 0 ≤ (x5_1 : Int) := of_decide_eq_true zb2
       have q33 : x5_1 < (a0.size : Int) := of_decide_eq_true zb2
       have hx33 := bt_at a0 x5_1
       replace p33 := eq_true p33
       replace q33 := eq_true q33
       go_wp2_with (first | ((with_reducible refine gate_builtin (b := .append) (xs := #[.tmp 16, .tmp 20]) rfl ?_); at_builtin; refine Kd.R_append (Kd.int .u8) (w0 := w) w.heap.size rfl (.tmp 16) (.tmp 20) 23 5 (.int .u8 0) 1 rfl Tryz.underlying23 info5 rfl zb19 zb16 u4 x4_1 (bt a0 x5_1) [.int .u8 (bt a0 x5_1)] (fun _ => True) (fun _ => False) rfl rfl ?aP (fun _ hk => hk.elim) ?aF ?aO ?aB ?aS ?aL ?_; (case aP => exact rfl); (case aB => exact zb0); (case aF => exact (fun _ _ => trivial)); (case aO => exact zb37); (case aS => exact (below_size zb0)); (case aL => have := LMc34.out; omega); intro v361 w35 ho hb hg hat; rw [← Ny360.out] at ho; have n0_ := Aside0.mk (hb); have n1_ := Aside0.mk (ho); clear HB; clear HO_4; have HB := n0_; have HO362 := n1_; clear n0_ n1_; clear ho hb hg hat))
       go_roundg k1
       case measure => have := HK1.out; omega
       case rel => exact ⟨(y360), (wrap64 (x5_1 + 1)), zb4, H', ⟨by have := HK1.out; omega⟩, ⟨by (with_reducible repeat (first | apply Kd.R_alloc | apply Kd.R_drewN | apply Kd.R_drew)); exact HO362.out⟩, ⟨by repeat (first | (with_reducible first | exact HB.out | apply below_alloc | apply pw_below_drewN | apply below_drew1) | exact HB.out)⟩⟩
      ·rw [if_neg c34] at H
       exact absurd H zb22
    ·rw [if_neg c3] at H
     exact absurd H zb22
   ·rw [if_neg c2] at H
    have c2b0 : decide (x5_1 < (a0.size : Int)) = false := decide_eq_false c2
    clear c2
    simp only [Option.some.injEq, Prod.mk.injEq] at H
    obtain ⟨rfl, rfl⟩ := H
    have hcv36 := own_string (P := Tryz.prog) Tryz.underlying23 Tryz.underlying5 Tryz.underlying9 (Kd.own_of_R HO_4.out)
    have hcvq36 := fun n_ => own_string (P := Tryz.prog) Tryz.underlying23 Tryz.underlying5 Tryz.underlying9 (Kd.own_of_R (Kd.R_drewN HO_4.out n_))
    go_wp2
    go_ret2
    exact ⟨zb3, zb0⟩
mutual
def broadsheetref20_Slug.j0 : Nat → ByteArray → Option (ByteArray)
  | 0, _ => none
  | k + 1, x3 => broadsheetref20_Slug.l0 k x3 (⟨#[]⟩ : ByteArray) false 0
def broadsheetref20_Slug.l0 : Nat → ByteArray → ByteArray → Bool → Int → Option (ByteArray)
  | 0, _, _, _, _ => none
  | k + 1, x3, x5, x6, x7 => if x7 < (x3.size : Int) then (broadsheetref20_Slug.j2 k x3 x5 x6 x7 (decide ((x5.size : Int) < 20))) else (broadsheetref20_Slug.j2 k x3 x5 x6 x7 false)
def broadsheetref20_Slug.j2 : Nat → ByteArray → ByteArray → Bool → Int → Bool → Option (ByteArray)
  | 0, _, _, _, _, _ => none
  | k + 1, x3, x5, x6, x7, x25 => if x25 = true then (if 0 ≤ x7 then (if x7 < (x3.size : Int) then (if (bt x3 x7) ≥ 65 then (broadsheetref20_Slug.j3 k x3 x5 x6 x7 (bt x3 x7) (decide ((bt x3 x7) ≤ 90))) else (broadsheetref20_Slug.j3 k x3 x5 x6 x7 (bt x3 x7) false)) else (none)) else (none)) else (some x5)
def broadsheetref20_Slug.j3 : Nat → ByteArray → ByteArray → Bool → Int → Int → Bool → Option (ByteArray)
  | 0, _, _, _, _, _, _ => none
  | k + 1, x3, x5, x6, x7, x8, x36 => if x36 = true then (broadsheetref20_Slug.j4 k x3 x5 x6 x7 ((x8 + 32) % 256)) else (broadsheetref20_Slug.j4 k x3 x5 x6 x7 x8)
def broadsheetref20_Slug.j4 : Nat → ByteArray → ByteArray → Bool → Int → Int → Option (ByteArray)
  | 0, _, _, _, _, _ => none
  | k + 1, x3, x5, x6, x7, x8 => if x8 ≥ 97 then (if x8 ≤ 122 then (broadsheetref20_Slug.j5 k x3 x5 x6 x7 x8 true) else (if x8 ≥ 48 then (broadsheetref20_Slug.j5 k x3 x5 x6 x7 x8 (decide (x8 ≤ 57))) else (broadsheetref20_Slug.j5 k x3 x5 x6 x7 x8 false))) else (if x8 ≥ 48 then (broadsheetref20_Slug.j5 k x3 x5 x6 x7 x8 (decide (x8 ≤ 57))) else (broadsheetref20_Slug.j5 k x3 x5 x6 x7 x8 false))
def broadsheetref20_Slug.j5 : Nat → ByteArray → ByteArray → Bool → Int → Int → Bool → Option (ByteArray)
  | 0, _, _, _, _, _, _ => none
  | k + 1, x3, x5, x6, x7, x8, x52 => if x52 = true then (if x6 = true then (if x5.toList = ([] : List UInt8) then (broadsheetref20_Slug.j6 k x3 x5 x7 x8 false) else (broadsheetref20_Slug.j6 k x3 x5 x7 x8 (decide ((x5.size : Int) < 19)))) else (broadsheetref20_Slug.j6 k x3 x5 x7 x8 false)) else (broadsheetref20_Slug.l0 k x3 x5 true (wrap64 (x7 + 1)))
def broadsheetref20_Slug.j6 : Nat → ByteArray → ByteArray → Int → Int → Bool → Option (ByteArray)
  | 0, _, _, _, _, _ => none
  | k + 1, x3, x5, x7, x8, x62 => if x62 = true then (if x5.size + 1 ≤ 9223372036854775807 then (if ((x5 ++ (⟨#[45]⟩ : ByteArray)).size : Int) < 20 then ((some (([x8] : List Int) : List Int)).bind fun y372 => (if (x5 ++ (⟨#[45]⟩ : ByteArray)).size + (strOfNums y372).size ≤ 9223372036854775807 then (broadsheetref20_Slug.l0 k x3 ((x5 ++ (⟨#[45]⟩ : ByteArray)) ++ (strOfNums y372)) false (wrap64 (x7 + 1))) else (none))) else (broadsheetref20_Slug.l0 k x3 (x5 ++ (⟨#[45]⟩ : ByteArray)) false (wrap64 (x7 + 1)))) else (none)) else (if (x5.size : Int) < 20 then ((some (([x8] : List Int) : List Int)).bind fun y375 => (if x5.size + (strOfNums y375).size ≤ 9223372036854775807 then (broadsheetref20_Slug.l0 k x3 (x5 ++ (strOfNums y375)) false (wrap64 (x7 + 1))) else (none))) else (broadsheetref20_Slug.l0 k x3 x5 false (wrap64 (x7 + 1))))
end
def broadsheetref20_Slug.f (k : Nat) (a0 : ByteArray) : Option (ByteArray) := (broadsheetref20_Percent.f k a0).bind fun bt370 => (if bt370.2 = true then (broadsheetref20_Slug.j0 k bt370.1) else (broadsheetref20_Slug.j0 k a0))
set_option maxHeartbeats 8000000 in
set_option maxRecDepth 100000 in
theorem broadsheetref20_Slug.calls (k : Nat) (a0 : ByteArray) (r : ByteArray) (w : World) (h : broadsheetref20_Slug.f k a0 = some r) :
  Calls Tryz.prog 23 #[.string a0] w fun e w' => e = .returned (.string r) ∧ Below w.heap.size w w' := by
 have HB := Aside0.mk (Below.refl w.heap.size w)
 have H : ((broadsheetref20_Percent.f k a0).bind fun bt370 => (if bt370.2 = true then (broadsheetref20_Slug.j0 k bt370.1) else (broadsheetref20_Slug.j0 k a0))) = some r := h
 clear h
 replace H := Option.bind_eq_some_iff.mp H
 obtain ⟨⟨t370, t371⟩, A20, H⟩ := H
 replace H : (if t371 = true then (broadsheetref20_Slug.j0 k t370) else (broadsheetref20_Slug.j0 k a0)) = some r := H
 have A2 := Aside0.mk A20
 clear A20
 have HC3 := Aside0.mk H
 clear H
 go_enter Tryz.func23, Tryz.ntmps23
 go_upto_if 15 with (first | ((with_reducible refine gate_callee (f := 21) rfl ?_); refine goesL_ (some 11) rfl rfl Tryz.func21 zb12 rfl #[.string a0] rfl zb1 ?_; (with_reducible refine (broadsheetref20_Percent.calls k a0 t370 t371 _ A2.out).mono ?_); rintro e w4 ⟨rfl, hb⟩; refine ⟨_, rfl, ?_⟩; have n0_ := Aside0.mk (below_step zb0 hb); clear HB; have HB := n0_; clear n0_; (try clear hb); (try clear hb2); (try clear hk); (try clear hi)))
 (try simp only [Act.put, List.setIfInBounds_toArray, List.set_cons_zero, List.set_cons_succ])
 go_cut [3] (fun v3 wc => ∃ (kq : Nat) (x3_2 : ByteArray), v3 = .string x3_2 ∧ Aside0 (broadsheetref20_Slug.j0 kq x3_2 = some r) ∧ Aside0 (kq ≤ k) ∧ Aside0 (Below w.heap.size w wc))
 case first =>
  have H := HC3.out
  clear HC3
  by_cases c5 : t371 = true
  ·subst c5
   replace H : (broadsheetref20_Slug.j0 k t370) = some r := by rw [if_pos rfl] at H; exact H
   have H' := Aside0.mk H
   clear H
   go_wp2
   go_meet
   case rel => exact ⟨_, (t370), zb4, H', ⟨by first | omega | exact Nat.le_refl _⟩, ⟨by repeat (first | (with_reducible first | exact HB.out | apply below_alloc | apply pw_below_drewN | apply below_drew1) | exact HB.out)⟩⟩
  ·replace c5 := Bool.eq_false_iff.mpr c5
   subst c5
   replace H : (broadsheetref20_Slug.j0 k a0) = some r := by rw [if_neg (show ¬ (false = true) by decide)] at H; exact H
   have H' := Aside0.mk H
   clear H
   go_wp2
   go_meet
   case rel => exact ⟨_, (a0), zb4, H', ⟨by first | omega | exact Nat.le_refl _⟩, ⟨by repeat (first | (with_reducible first | exact HB.out | apply below_alloc | apply pw_below_drewN | apply below_drew1) | exact HB.out)⟩⟩
 case rest =>
  clear HC3
  try clear c2
  try clear p2
  try clear c5
  obtain ⟨kq, x3_2, rfl, HA, HJ2, HB⟩ := hcut
  cases kq with
  | zero => exact absurd HA.out (by simp [broadsheetref20_Slug.j0])
  | succ kj2 =>
   have H := HA.out
   clear HA
   simp only [broadsheetref20_Slug.j0] at H
   have H' := Aside0.mk H
   clear H
   go_wp2
   first | go_loopg [5, 6, 7] kj2 (fun kq v5 v6 v7 w' => ∃ (x5_2 : ByteArray) (x6_2 : Bool) (x7_2 : Int), v5 = .string x5_2 ∧ v6 = .bool x6_2 ∧ v7 = .int .i64 x7_2 ∧ Aside0 (broadsheetref20_Slug.l0 kq x3_2 x5_2 x6_2 x7_2 = some r) ∧ Aside0 (kq ≤ kj2) ∧ Aside0 (Below w.heap.size w w')) | (go_simp; go_loopg [5, 6, 7] kj2 (fun kq v5 v6 v7 w' => ∃ (x5_2 : ByteArray) (x6_2 : Bool) (x7_2 : Int), v5 = .string x5_2 ∧ v6 = .bool x6_2 ∧ v7 = .int .i64 x7_2 ∧ Aside0 (broadsheetref20_Slug.l0 kq x3_2 x5_2 x6_2 x7_2 = some r) ∧ Aside0 (kq ≤ kj2) ∧ Aside0 (Below w.heap.size w w')))
   case atStart => exact ⟨((⟨#[]⟩ : ByteArray)), (false), (0), zb4, zb4, zb4, H', ⟨Nat.le_refl _⟩, ⟨by repeat (first | (with_reducible first | exact HB.out | apply below_alloc | apply pw_below_drewN | apply below_drew1) | exact HB.out)⟩⟩
   case round =>
    clear H'
    try clear c2
    try clear p2
    try clear c5
    try clear p2
    obtain ⟨x5_2, x6_2, x7_2, rfl, rfl, rfl, HA, HK2, HB⟩ := hrel
    cases gk with
    | zero => exact absurd HA.out (by simp [broadsheetref20_Slug.l0])
    | succ k2 =>
     have H := HA.out
     clear HA
     simp only [broadsheetref20_Slug.l0] at H
     have HC6 := Aside0.mk H
     clear H
     go_upto_region 7 with (fail)
     go_cut [25] (fun v25 wc => ∃ (kq : Nat) (x25_5 : Bool), v25 = .bool x25_5 ∧ Aside0 (broadsheetref20_Slug.j2 kq x3_2 x5_2 x6_2 x7_2 x25_5 = some r) ∧ Aside0 (kq ≤ k2) ∧ Aside0 (Below w.heap.size w wc))
     case first =>
      have H := HC6.out
      clear HC6
      by_cases c7 : x7_2 < (x3_2.size : Int)
      ·rw [if_pos c7] at H
       have c7b0 : decide (x7_2 < (x3_2.size : Int)) = true := decide_eq_true c7
       clear c7
       (first | rw [c7b0] | (simp only [i64_w, i32_w]; rw [c7b0]) | skip)
       have H' := Aside0.mk H
       clear H
       go_wp2
       go_meet
       case rel => exact ⟨_, (decide ((x5_2.size : Int) < 20)), zb4, H', ⟨by have := HJ2.out; have := HK2.out; first | omega | exact Nat.le_refl _⟩, ⟨by repeat (first | (with_reducible first | exact HB.out | apply below_alloc | apply pw_below_drewN | apply below_drew1) | exact HB.out)⟩⟩
      ·rw [if_neg c7] at H
       have c7b0 : decide (x7_2 < (x3_2.size : Int)) = false := decide_eq_false c7
       clear c7
       (first | rw [c7b0] | (simp only [i64_w, i32_w]; rw [c7b0]) | skip)
       have H' := Aside0.mk H
       clear H
       go_wp2
       go_meet
       case rel => exact ⟨_, (false), zb4, H', ⟨by have := HJ2.out; have := HK2.out; first | omega | exact Nat.le_refl _⟩, ⟨by repeat (first | (with_reducible first | exact HB.out | apply below_alloc | apply pw_below_drewN | apply below_drew1) | exact HB.out)⟩⟩
     case rest =>
      clear HC6
      try clear c2
      try clear p2
      try clear c5
      try clear c7
      try clear c7b0
      try clear p2
      obtain ⟨kq, x25_5, rfl, HA, HJ5, HB⟩ := hcut
      cases kq with
      | zero => exact absurd HA.out (by simp [broadsheetref20_Slug.j2])
      | succ kj5 =>
       have H := HA.out
       clear HA
       simp only [broadsheetref20_Slug.j2] at H
       by_cases c8 : x25_5 = true
       ·subst c8
        replace H : (if 0 ≤ x7_2 then (if x7_2 < (x3_2.size : Int) then (if (bt x3_2 x7_2) ≥ 65 then (broadsheetref20_Slug.j3 kj5 x3_2 x5_2 x6_2 x7_2 (bt x3_2 x7_2) (decide ((bt x3_2 x7_2) ≤ 90))) else (broadsheetref20_Slug.j3 kj5 x3_2 x5_2 x6_2 x7_2 (bt x3_2 x7_2) false)) else (none)) else (none)) = some r := by rw [if_pos rfl] at H; exact H
        by_cases c9 : 0 ≤ x7_2
        ·rw [if_pos c9] at H
         have c9b0 : decide (0 ≤ x7_2) = true := decide_eq_true c9
         clear c9
         by_cases c10 : x7_2 < (x3_2.size : Int)
         ·rw [if_pos c10] at H
          have c10b0 : decide (x7_2 < (x3_2.size : Int)) = true := decide_eq_true c10
          clear c10
          have HC12 := Aside0.mk H
          clear H
          have p11 : 0 ≤ (x7_2 : Int) := of_decide_eq_true zb2
          have q11 : x7_2 < (x3_2.size : Int) := of_decide_eq_true zb2
          have hx11 := bt_at x3_2 x7_2
          replace p11 := eq_true p11
          replace q11 := eq_true q11
          go_upto_region 10 with (fail)
          go_cut [36] (fun v36 wc => ∃ (kq : Nat) (x36_11 : Bool), v36 = .bool x36_11 ∧ Aside0 (broadsheetref20_Slug.j3 kq x3_2 x5_2 x6_2 x7_2 (bt x3_2 x7_2) x36_11 = some r) ∧ Aside0 (kq ≤ kj5) ∧ Aside0 (Below w.heap.size w wc))
          case first =>
           have H := HC12.out
           clear HC12
           by_cases c13 : (bt x3_2 x7_2) ≥ 65
           ·rw [if_pos c13] at H
            have c13b0 : decide (65 ≤ (bt x3_2 x7_2)) = true := decide_eq_true c13
            clear c13
            (first | rw [c13b0] | (simp only [i64_w, i32_w]; rw [c13b0]) | skip)
            have H' := Aside0.mk H
            clear H
            go_wp2
            go_meet
            case rel => exact ⟨_, (decide ((bt x3_2 x7_2) ≤ 90)), zb4, H', ⟨by have := HJ2.out; have := HK2.out; have := HJ5.out; first | omega | exact Nat.le_refl _⟩, ⟨by repeat (first | (with_reducible first | exact HB.out | apply below_alloc | apply pw_below_drewN | apply below_drew1) | exact HB.out)⟩⟩
           ·rw [if_neg c13] at H
            have c13b0 : decide (65 ≤ (bt x3_2 x7_2)) = false := decide_eq_false c13
            clear c13
            (first | rw [c13b0] | (simp only [i64_w, i32_w]; rw [c13b0]) | skip)
            have H' := Aside0.mk H
            clear H
            go_wp2
            go_meet
            case rel => exact ⟨_, (false), zb4, H', ⟨by have := HJ2.out; have := HK2.out; have := HJ5.out; first | omega | exact Nat.le_refl _⟩, ⟨by repeat (first | (with_reducible first | exact HB.out | apply below_alloc | apply pw_below_drewN | apply below_drew1) | exact HB.out)⟩⟩
          case rest =>
           clear HC12
           try clear c1
           try clear p1
           try clear q1
           try clear hx1
           try clear c2
           try clear p2
           try clear c5
           try clear c7
           try clear c7b0
           try clear c8
           try clear c9
           try clear c9b0
           try clear c10
           try clear c10b0
           try clear p11
           try clear q11
           try clear hx11
           try clear c13
           try clear c13b0
           try clear p11
           try clear p2
           try clear q11
           obtain ⟨kq, x36_11, rfl, HA, HJ11, HB⟩ := hcut
           cases kq with
           | zero => exact absurd HA.out (by simp [broadsheetref20_Slug.j3])
           | succ kj11 =>
            have H := HA.out
            clear HA
            simp only [broadsheetref20_Slug.j3] at H
            have HC14 := Aside0.mk H
            clear H
            go_upto_if 36 with (fail)
            go_cut [8] (fun v8 wc => ∃ (kq : Nat) (x8_13 : Int), v8 = .int .u8 x8_13 ∧ Aside0 (broadsheetref20_Slug.j4 kq x3_2 x5_2 x6_2 x7_2 x8_13 = some r) ∧ Aside0 (kq ≤ kj11) ∧ Aside0 (Below w.heap.size w wc))
            case first =>
             have H := HC14.out
             clear HC14
             by_cases c15 : x36_11 = true
             ·subst c15
              replace H : (broadsheetref20_Slug.j4 kj11 x3_2 x5_2 x6_2 x7_2 (((bt x3_2 x7_2) + 32) % 256)) = some r := by rw [if_pos rfl] at H; exact H
              have H' := Aside0.mk H
              clear H
              go_wp2
              go_meet
              case rel => exact ⟨_, (((bt x3_2 x7_2) + 32) % 256), zb4, H', ⟨by have := HJ2.out; have := HK2.out; have := HJ5.out; have := HJ11.out; first | omega | exact Nat.le_refl _⟩, ⟨by repeat (first | (with_reducible first | exact HB.out | apply below_alloc | apply pw_below_drewN | apply below_drew1) | exact HB.out)⟩⟩
             ·replace c15 := Bool.eq_false_iff.mpr c15
              subst c15
              replace H : (broadsheetref20_Slug.j4 kj11 x3_2 x5_2 x6_2 x7_2 (bt x3_2 x7_2)) = some r := by rw [if_neg (show ¬ (false = true) by decide)] at H; exact H
              have H' := Aside0.mk H
              clear H
              go_wp2
              go_meet
              case rel => exact ⟨_, ((bt x3_2 x7_2)), zb4, H', ⟨by have := HJ2.out; have := HK2.out; have := HJ5.out; have := HJ11.out; first | omega | exact Nat.le_refl _⟩, ⟨by repeat (first | (with_reducible first | exact HB.out | apply below_alloc | apply pw_below_drewN | apply below_drew1) | exact HB.out)⟩⟩
            case rest =>
             clear HC14
             try clear c1
             try clear p1
             try clear q1
             try clear hx1
             try clear c2
             try clear p2
             try clear c5
             try clear c7
             try clear c7b0
             try clear c8
             try clear c9
             try clear c9b0
             try clear c10
             try clear c10b0
             try clear p11
             try clear q11
             try clear hx11
             try clear c13
             try clear c13b0
             try clear c15
             try clear p1
             try clear p11
             try clear p2
             try clear q1
             try clear q11
             obtain ⟨kq, x8_13, rfl, HA, HJ13, HB⟩ := hcut
             cases kq with
             | zero => exact absurd HA.out (by simp [broadsheetref20_Slug.j4])
             | succ kj13 =>
              have H := HA.out
              clear HA
              simp only [broadsheetref20_Slug.j4] at H
              have HC16 := Aside0.mk H
              clear H
              go_upto_region 12 with (fail)
              go_cut [52] (fun v52 wc => ∃ (kq : Nat) (x52_15 : Bool), v52 = .bool x52_15 ∧ Aside0 (broadsheetref20_Slug.j5 kq x3_2 x5_2 x6_2 x7_2 x8_13 x52_15 = some r) ∧ Aside0 (kq ≤ kj13) ∧ Aside0 (Below w.heap.size w wc))
              case first =>
               have H := HC16.out
               clear HC16
               by_cases c17 : x8_13 ≥ 97
               ·rw [if_pos c17] at H
                have c17b0 : decide (97 ≤ x8_13) = true := decide_eq_true c17
                clear c17
                (first | rw [c17b0] | (simp only [i64_w, i32_w]; rw [c17b0]) | skip)
                by_cases c18 : x8_13 ≤ 122
                ·rw [if_pos c18] at H
                 have c18b0 : decide (x8_13 ≤ 122) = true := decide_eq_true c18
                 clear c18
                 have H' := Aside0.mk H
                 clear H
                 go_wp2
                 go_meet
                 case rel => exact ⟨_, (true), zb4, H', ⟨by have := HJ2.out; have := HK2.out; have := HJ5.out; have := HJ11.out; have := HJ13.out; first | omega | exact Nat.le_refl _⟩, ⟨by repeat (first | (with_reducible first | exact HB.out | apply below_alloc | apply pw_below_drewN | apply below_drew1) | exact HB.out)⟩⟩
                ·rw [if_neg c18] at H
                 have c18b0 : decide (x8_13 ≤ 122) = false := decide_eq_false c18
                 clear c18
                 by_cases c19 : x8_13 ≥ 48
                 ·rw [if_pos c19] at H
                  have c19b0 : decide (48 ≤ x8_13) = true := decide_eq_true c19
                  clear c19
                  have H' := Aside0.mk H
                  clear H
                  go_wp2
                  go_meet
                  case rel => exact ⟨_, (decide (x8_13 ≤ 57)), zb4, H', ⟨by have := HJ2.out; have := HK2.out; have := HJ5.out; have := HJ11.out; have := HJ13.out; first | omega | exact Nat.le_refl _⟩, ⟨by repeat (first | (with_reducible first | exact HB.out | apply below_alloc | apply pw_below_drewN | apply below_drew1) | exact HB.out)⟩⟩
                 ·rw [if_neg c19] at H
                  have c19b0 : decide (48 ≤ x8_13) = false := decide_eq_false c19
                  clear c19
                  have H' := Aside0.mk H
                  clear H
                  go_wp2
                  go_meet
                  case rel => exact ⟨_, (false), zb4, H', ⟨by have := HJ2.out; have := HK2.out; have := HJ5.out; have := HJ11.out; have := HJ13.out; first | omega | exact Nat.le_refl _⟩, ⟨by repeat (first | (with_reducible first | exact HB.out | apply below_alloc | apply pw_below_drewN | apply below_drew1) | exact HB.out)⟩⟩
               ·rw [if_neg c17] at H
                have c17b0 : decide (97 ≤ x8_13) = false := decide_eq_false c17
                clear c17
                (first | rw [c17b0] | (simp only [i64_w, i32_w]; rw [c17b0]) | skip)
                by_cases c20 : x8_13 ≥ 48
                ·rw [if_pos c20] at H
                 have c20b0 : decide (48 ≤ x8_13) = true := decide_eq_true c20
                 clear c20
                 have H' := Aside0.mk H
                 clear H
                 go_wp2
                 go_meet
                 case rel => exact ⟨_, (decide (x8_13 ≤ 57)), zb4, H', ⟨by have := HJ2.out; have := HK2.out; have := HJ5.out; have := HJ11.out; have := HJ13.out; first | omega | exact Nat.le_refl _⟩, ⟨by repeat (first | (with_reducible first | exact HB.out | apply below_alloc | apply pw_below_drewN | apply below_drew1) | exact HB.out)⟩⟩
                ·rw [if_neg c20] at H
                 have c20b0 : decide (48 ≤ x8_13) = false := decide_eq_false c20
                 clear c20
                 have H' := Aside0.mk H
                 clear H
                 go_wp2
                 go_meet
                 case rel => exact ⟨_, (false), zb4, H', ⟨by have := HJ2.out; have := HK2.out; have := HJ5.out; have := HJ11.out; have := HJ13.out; first | omega | exact Nat.le_refl _⟩, ⟨by repeat (first | (with_reducible first | exact HB.out | apply below_alloc | apply pw_below_drewN | apply below_drew1) | exact HB.out)⟩⟩
              case rest =>
               clear HC16
               try clear c1
               try clear p1
               try clear q1
               try clear hx1
               try clear c2
               try clear p2
               try clear c5
               try clear c7
               try clear c7b0
               try clear c8
               try clear c9
               try clear c9b0
               try clear c10
               try clear c10b0
               try clear p11
               try clear q11
               try clear hx11
               try clear c13
               try clear c13b0
               try clear c15
               try clear c17
               try clear c17b0
               try clear c18
               try clear c18b0
               try clear c19
               try clear c19b0
               try clear c20
               try clear c20b0
               try clear p1
               try clear p11
               try clear p2
               try clear q1
               try clear q11
               obtain ⟨kq, x52_15, rfl, HA, HJ15, HB⟩ := hcut
               cases kq with
               | zero => exact absurd HA.out (by simp [broadsheetref20_Slug.j5])
               | succ kj15 =>
                have H := HA.out
                clear HA
                simp only [broadsheetref20_Slug.j5] at H
                by_cases c21 : x52_15 = true
                ·subst c21
                 replace H : (if x6_2 = true then (if x5_2.toList = ([] : List UInt8) then (broadsheetref20_Slug.j6 kj15 x3_2 x5_2 x7_2 x8_13 false) else (broadsheetref20_Slug.j6 kj15 x3_2 x5_2 x7_2 x8_13 (decide ((x5_2.size : Int) < 19)))) else (broadsheetref20_Slug.j6 kj15 x3_2 x5_2 x7_2 x8_13 false)) = some r := by rw [if_pos rfl] at H; exact H
                 have HC22 := Aside0.mk H
                 clear H
                 go_upto_region 13 with (fail)
                 go_cut [62] (fun v62 wc => ∃ (kq : Nat) (x62_21 : Bool), v62 = .bool x62_21 ∧ Aside0 (broadsheetref20_Slug.j6 kq x3_2 x5_2 x7_2 x8_13 x62_21 = some r) ∧ Aside0 (kq ≤ kj15) ∧ Aside0 (Below w.heap.size w wc))
                 case first =>
                  have H := HC22.out
                  clear HC22
                  by_cases c23 : x6_2 = true
                  ·subst c23
                   replace H : (if x5_2.toList = ([] : List UInt8) then (broadsheetref20_Slug.j6 kj15 x3_2 x5_2 x7_2 x8_13 false) else (broadsheetref20_Slug.j6 kj15 x3_2 x5_2 x7_2 x8_13 (decide ((x5_2.size : Int) < 19)))) = some r := by rw [if_pos rfl] at H; exact H
                   by_cases c24 : x5_2.toList = ([] : List UInt8)
                   ·rw [if_pos c24] at H
                    have c24b0 : (x5_2.toList == ([] : List UInt8)) = true := beq_iff_eq.mpr c24
                    have c24b1 : (x5_2.toList != ([] : List UInt8)) = false := bne_eq_false_iff_eq.mpr c24
                    clear c24
                    (first | rw [c24b0] | (simp only [i64_w, i32_w]; rw [c24b0]) | skip)
                    have H' := Aside0.mk H
                    clear H
                    go_wp2
                    go_meet
                    case rel => exact ⟨_, (false), zb4, H', ⟨by have := HJ2.out; have := HK2.out; have := HJ5.out; have := HJ11.out; have := HJ13.out; have := HJ15.out; first | omega | exact Nat.le_refl _⟩, ⟨by repeat (first | (with_reducible first | exact HB.out | apply below_alloc | apply pw_below_drewN | apply below_drew1) | exact HB.out)⟩⟩
                   ·rw [if_neg c24] at H
                    have c24b0 : (x5_2.toList == ([] : List UInt8)) = false := beq_eq_false_iff_ne.mpr c24
                    have c24b1 : (x5_2.toList != ([] : List UInt8)) = true := bne_iff_ne.mpr c24
                    (first | rw [c24b0] | (simp only [i64_w, i32_w]; rw [c24b0]) | skip)
                    have H' := Aside0.mk H
                    clear H
                    go_wp2
                    go_meet
                    case rel => exact ⟨_, (decide ((x5_2.size : Int) < 19)), zb4, H', ⟨by have := HJ2.out; have := HK2.out; have := HJ5.out; have := HJ11.out; have := HJ13.out; have := HJ15.out; first | omega | exact Nat.le_refl _⟩, ⟨by repeat (first | (with_reducible first | exact HB.out | apply below_alloc | apply pw_below_drewN | apply below_drew1) | exact HB.out)⟩⟩
                  ·replace c23 := Bool.eq_false_iff.mpr c23
                   subst c23
                   replace H : (broadsheetref20_Slug.j6 kj15 x3_2 x5_2 x7_2 x8_13 false) = some r := by rw [if_neg (show ¬ (false = true) by decide)] at H; exact H
                   have H' := Aside0.mk H
                   clear H
                   go_wp2
                   go_meet
                   case rel => exact ⟨_, (false), zb4, H', ⟨by have := HJ2.out; have := HK2.out; have := HJ5.out; have := HJ11.out; have := HJ13.out; have := HJ15.out; first | omega | exact Nat.le_refl _⟩, ⟨by repeat (first | (with_reducible first | exact HB.out | apply below_alloc | apply pw_below_drewN | apply below_drew1) | exact HB.out)⟩⟩
                 case rest =>
                  clear HC22
                  try clear c1
                  try clear p1
                  try clear q1
                  try clear hx1
                  try clear c2
                  try clear p2
                  try clear c5
                  try clear c7
                  try clear c7b0
                  try clear c8
                  try clear c9
                  try clear c9b0
                  try clear c10
                  try clear c10b0
                  try clear p11
                  try clear q11
                  try clear hx11
                  try clear c13
                  try clear c13b0
                  try clear c15
                  try clear c17
                  try clear c17b0
                  try clear c18
                  try clear c18b0
                  try clear c19
                  try clear c19b0
                  try clear c20
                  try clear c20b0
                  try clear c21
                  try clear c23
                  try clear c24
                  try clear c24b0
                  try clear c24b1
                  try clear p1
                  try clear p11
                  try clear p2
                  try clear q1
                  try clear q11
                  obtain ⟨kq, x62_21, rfl, HA, HJ21, HB⟩ := hcut
                  cases kq with
                  | zero => exact absurd HA.out (by simp [broadsheetref20_Slug.j6])
                  | succ kj21 =>
                   have H := HA.out
                   clear HA
                   simp only [broadsheetref20_Slug.j6] at H
                   by_cases c25 : x62_21 = true
                   ·subst c25
                    replace H : (if x5_2.size + 1 ≤ 9223372036854775807 then (if ((x5_2 ++ (⟨#[45]⟩ : ByteArray)).size : Int) < 20 then ((some (([x8_13] : List Int) : List Int)).bind fun y372 => (if (x5_2 ++ (⟨#[45]⟩ : ByteArray)).size + (strOfNums y372).size ≤ 9223372036854775807 then (broadsheetref20_Slug.l0 kj21 x3_2 ((x5_2 ++ (⟨#[45]⟩ : ByteArray)) ++ (strOfNums y372)) false (wrap64 (x7_2 + 1))) else (none))) else (broadsheetref20_Slug.l0 kj21 x3_2 (x5_2 ++ (⟨#[45]⟩ : ByteArray)) false (wrap64 (x7_2 + 1)))) else (none)) = some r := by rw [if_pos rfl] at H; exact H
                    by_cases c26 : x5_2.size + 1 ≤ 9223372036854775807
                    ·rw [if_pos c26] at H
                     have c26b0 := eq_true c26
                     have c26b1 : decide (x5_2.size + 1 ≤ 9223372036854775807) = true := decide_eq_true c26
                     try have c26b2 : (9223372036854775807 < x5_2.size + 1) = False := eq_false (Nat.not_lt.2 c26)
                     by_cases c27 : ((x5_2 ++ (⟨#[45]⟩ : ByteArray)).size : Int) < 20
                     ·rw [if_pos c27] at H
                      have c27b0 : decide (((x5_2 ++ (⟨#[45]⟩ : ByteArray)).size : Int) < 20) = true := decide_eq_true c27
                      have c27z : decide ((x5_2.size : Int) + 1 < 20) = true := by have e_ : ((x5_2 ++ (⟨#[45]⟩ : ByteArray)).size : Int) = (x5_2.size : Int) + 1 := (by rw [ByteArray.size_append]; rfl); have z_ := c27b0; rw [e_] at z_; exact z_
                      have c27b1 : decide ((x5_2 ++ (⟨#[45]⟩ : ByteArray)).size < 20) = true := decide_eq_true zb16
                      clear c27
                      obtain ⟨y372, hy372⟩ : ∃ y_ : List Int, y_ = (([x8_13] : List Int)) := ⟨_, rfl⟩
                      replace H : (if (x5_2 ++ (⟨#[45]⟩ : ByteArray)).size + (strOfNums y372).size ≤ 9223372036854775807 then (broadsheetref20_Slug.l0 kj21 x3_2 ((x5_2 ++ (⟨#[45]⟩ : ByteArray)) ++ (strOfNums y372)) false (wrap64 (x7_2 + 1))) else (none)) = some r := by first | (rw [hy372]; with_reducible exact H) | (have H2_ := (Option.bind_some _ _).symm.trans H; rw [hy372]; with_reducible exact H2_) | (have H2_ := (Option.bind_some _ _).symm.trans H; with_reducible exact H2_) | with_reducible exact H | (rw [hy372]; exact H) | exact H
                      have Ny372 := Aside0.mk hy372
                      clear hy372
                      by_cases c28 : (x5_2 ++ (⟨#[45]⟩ : ByteArray)).size + (strOfNums y372).size ≤ 9223372036854775807
                      ·rw [if_pos c28] at H
                       have c28b0 := eq_true c28
                       have c28b1 : decide ((x5_2 ++ (⟨#[45]⟩ : ByteArray)).size + (strOfNums y372).size ≤ 9223372036854775807) = true := decide_eq_true c28
                       try have c28b2 : (9223372036854775807 < (x5_2 ++ (⟨#[45]⟩ : ByteArray)).size + (strOfNums y372).size) = False := eq_false (Nat.not_lt.2 c28)
                       obtain ⟨nc28, hc28⟩ : ∃ n_ : Nat, n_ = (x5_2 ++ (⟨#[45]⟩ : ByteArray)).size + (strOfNums y372).size := ⟨_, rfl⟩
                       have c28m0 : nc28 ≤ 9223372036854775807 := by rw [hc28]; exact c28
                       (first | simp [go_sem, c26b0] at hc28 | simp [go_sem] at hc28 | skip)
                       rw [hc28] at c28m0
                       have c28m1 := eq_false (Nat.not_lt.2 c28m0)
                       have c28m2 := decide_eq_true c28m0
                       clear hc28 c28m0
                       have H' := Aside0.mk H
                       clear H
                       go_wp2_with (first | ((with_reducible refine gate_dst (N := 70) rfl ?_); (try (refine gate_guard (by rfl) ?_; dsimp only)); refine Kd.R_lit (Kd.int .u8) _ 5 ?hg (N := 70) ?hd (xs := ([x8_13] : List Int)) (inner := [.int .u8 x8_13]) (ok := fun _ => True) (okp := fun _ => True) ?hr ?hp (fun _ hk => hk) trivial (Below.refl _ _) (Nat.le_refl _) zb22 ?_; (case hd => rfl); (case hg => rfl); (case hr => first | (go_simp; done) | (go_simp; rfl)); (case hp => exact (Reps.one (show Kd.M (Kd.int .u8) _ _ _ x8_13 [.int .u8 x8_13] from rfl) (Reps.none _ _))); intro v373 w29 ho30 hb hg_ hnew_; clear hg_ hnew_; (first | rw [← Ny372.out] at ho30 | (simp only [Int.reduceToNat] at ho30; rw [← Ny372.out] at ho30)); have n0_ := Aside0.mk (Kd.R_lower ho30 (below_size zb0)); have n1_ := Aside0.mk (below_step zb0 hb); clear HB; have HO374 := n0_; have HB := n1_; clear n0_ n1_; clear hb ho30; have hcv31 := own_string (P := Tryz.prog) Tryz.underlying23 Tryz.underlying5 Tryz.underlying9 (Kd.own_of_R HO374.out); have hcvq31 := fun n_ => own_string (P := Tryz.prog) Tryz.underlying23 Tryz.underlying5 Tryz.underlying9 (Kd.own_of_R (Kd.R_drewN HO374.out n_))))
                       go_roundg kj21
                       case measure => have := HJ2.out; have := HK2.out; have := HJ5.out; have := HJ11.out; have := HJ13.out; have := HJ15.out; have := HJ21.out; omega
                       case rel => exact ⟨((x5_2 ++ (⟨#[45]⟩ : ByteArray)) ++ (strOfNums y372)), (false), (wrap64 (x7_2 + 1)), zb4, zb4, zb4, H', ⟨by have := HJ2.out; have := HK2.out; have := HJ5.out; have := HJ11.out; have := HJ13.out; have := HJ15.out; have := HJ21.out; omega⟩, ⟨by repeat (first | (with_reducible first | exact HB.out | apply below_alloc | apply pw_below_drewN | apply below_drew1) | exact HB.out)⟩⟩
                      ·rw [if_neg c28] at H
                       exact absurd H zb22
                     ·rw [if_neg c27] at H
                      have c27b0 : decide (((x5_2 ++ (⟨#[45]⟩ : ByteArray)).size : Int) < 20) = false := decide_eq_false c27
                      have c27z : decide ((x5_2.size : Int) + 1 < 20) = false := by have e_ : ((x5_2 ++ (⟨#[45]⟩ : ByteArray)).size : Int) = (x5_2.size : Int) + 1 := (by rw [ByteArray.size_append]; rfl); have z_ := c27b0; rw [e_] at z_; exact z_
                      have c27b1 : decide ((x5_2 ++ (⟨#[45]⟩ : ByteArray)).size < 20) = false := decide_eq_false zb16
                      clear c27
                      have H' := Aside0.mk H
                      clear H
                      go_wp2
                      go_roundg kj21
                      case measure => have := HJ2.out; have := HK2.out; have := HJ5.out; have := HJ11.out; have := HJ13.out; have := HJ15.out; have := HJ21.out; omega
                      case rel => exact ⟨(x5_2 ++ (⟨#[45]⟩ : ByteArray)), (false), (wrap64 (x7_2 + 1)), zb4, zb4, zb4, H', ⟨by have := HJ2.out; have := HK2.out; have := HJ5.out; have := HJ11.out; have := HJ13.out; have := HJ15.out; have := HJ21.out; omega⟩, ⟨by repeat (first | (with_reducible first | exact HB.out | apply below_alloc | apply pw_below_drewN | apply below_drew1) | exact HB.out)⟩⟩
                    ·rw [if_neg c26] at H
                     exact absurd H zb22
                   ·replace c25 := Bool.eq_false_iff.mpr c25
                    subst c25
                    replace H : (if (x5_2.size : Int) < 20 then ((some (([x8_13] : List Int) : List Int)).bind fun y375 => (if x5_2.size + (strOfNums y375).size ≤ 9223372036854775807 then (broadsheetref20_Slug.l0 kj21 x3_2 (x5_2 ++ (strOfNums y375)) false (wrap64 (x7_2 + 1))) else (none))) else (broadsheetref20_Slug.l0 kj21 x3_2 x5_2 false (wrap64 (x7_2 + 1)))) = some r := by rw [if_neg (show ¬ (false = true) by decide)] at H; exact H
                    by_cases c32 : (x5_2.size : Int) < 20
                    ·rw [if_pos c32] at H
                     have c32b0 : decide ((x5_2.size : Int) < 20) = true := decide_eq_true c32
                     have c32b1 : decide (x5_2.size < 20) = true := decide_eq_true zb16
                     clear c32
                     obtain ⟨y375, hy375⟩ : ∃ y_ : List Int, y_ = (([x8_13] : List Int)) := ⟨_, rfl⟩
                     replace H : (if x5_2.size + (strOfNums y375).size ≤ 9223372036854775807 then (broadsheetref20_Slug.l0 kj21 x3_2 (x5_2 ++ (strOfNums y375)) false (wrap64 (x7_2 + 1))) else (none)) = some r := by first | (rw [hy375]; with_reducible exact H) | (have H2_ := (Option.bind_some _ _).symm.trans H; rw [hy375]; with_reducible exact H2_) | (have H2_ := (Option.bind_some _ _).symm.trans H; with_reducible exact H2_) | with_reducible exact H | (rw [hy375]; exact H) | exact H
                     have Ny375 := Aside0.mk hy375
                     clear hy375
                     by_cases c33 : x5_2.size + (strOfNums y375).size ≤ 9223372036854775807
                     ·rw [if_pos c33] at H
                      have c33b0 := eq_true c33
                      have c33b1 : decide (x5_2.size + (strOfNums y375).size ≤ 9223372036854775807) = true := decide_eq_true c33
                      try have c33b2 : (9223372036854775807 < x5_2.size + (strOfNums y375).size) = False := eq_false (Nat.not_lt.2 c33)
                      have H' := Aside0.mk H
                      clear H
                      go_wp2_with (first | ((with_reducible refine gate_dst (N := 70) rfl ?_); (try (refine gate_guard (by rfl) ?_; dsimp only)); refine Kd.R_lit (Kd.int .u8) _ 5 ?hg (N := 70) ?hd (xs := ([x8_13] : List Int)) (inner := [.int .u8 x8_13]) (ok := fun _ => True) (okp := fun _ => True) ?hr ?hp (fun _ hk => hk) trivial (Below.refl _ _) (Nat.le_refl _) zb22 ?_; (case hd => rfl); (case hg => rfl); (case hr => first | (go_simp; done) | (go_simp; rfl)); (case hp => exact (Reps.one (show Kd.M (Kd.int .u8) _ _ _ x8_13 [.int .u8 x8_13] from rfl) (Reps.none _ _))); intro v376 w34 ho35 hb hg_ hnew_; clear hg_ hnew_; (first | rw [← Ny375.out] at ho35 | (simp only [Int.reduceToNat] at ho35; rw [← Ny375.out] at ho35)); have n0_ := Aside0.mk (Kd.R_lower ho35 (below_size zb0)); have n1_ := Aside0.mk (below_step zb0 hb); clear HB; have HO377 := n0_; have HB := n1_; clear n0_ n1_; clear hb ho35; have hcv36 := own_string (P := Tryz.prog) Tryz.underlying23 Tryz.underlying5 Tryz.underlying9 (Kd.own_of_R HO377.out); have hcvq36 := fun n_ => own_string (P := Tryz.prog) Tryz.underlying23 Tryz.underlying5 Tryz.underlying9 (Kd.own_of_R (Kd.R_drewN HO377.out n_))))
                      go_roundg kj21
                      case measure => have := HJ2.out; have := HK2.out; have := HJ5.out; have := HJ11.out; have := HJ13.out; have := HJ15.out; have := HJ21.out; omega
                      case rel => exact ⟨(x5_2 ++ (strOfNums y375)), (false), (wrap64 (x7_2 + 1)), zb4, zb4, zb4, H', ⟨by have := HJ2.out; have := HK2.out; have := HJ5.out; have := HJ11.out; have := HJ13.out; have := HJ15.out; have := HJ21.out; omega⟩, ⟨by repeat (first | (with_reducible first | exact HB.out | apply below_alloc | apply pw_below_drewN | apply below_drew1) | exact HB.out)⟩⟩
                     ·rw [if_neg c33] at H
                      exact absurd H zb22
                    ·rw [if_neg c32] at H
                     have c32b0 : decide ((x5_2.size : Int) < 20) = false := decide_eq_false c32
                     have c32b1 : decide (x5_2.size < 20) = false := decide_eq_false zb16
                     clear c32
                     have H' := Aside0.mk H
                     clear H
                     go_wp2
                     go_roundg kj21
                     case measure => have := HJ2.out; have := HK2.out; have := HJ5.out; have := HJ11.out; have := HJ13.out; have := HJ15.out; have := HJ21.out; omega
                     case rel => exact ⟨(x5_2), (false), (wrap64 (x7_2 + 1)), zb4, zb4, zb4, H', ⟨by have := HJ2.out; have := HK2.out; have := HJ5.out; have := HJ11.out; have := HJ13.out; have := HJ15.out; have := HJ21.out; omega⟩, ⟨by repeat (first | (with_reducible first | exact HB.out | apply below_alloc | apply pw_below_drewN | apply below_drew1) | exact HB.out)⟩⟩
                ·replace c21 := Bool.eq_false_iff.mpr c21
                 subst c21
                 replace H : (broadsheetref20_Slug.l0 kj15 x3_2 x5_2 true (wrap64 (x7_2 + 1))) = some r := by rw [if_neg (show ¬ (false = true) by decide)] at H; exact H
                 have H' := Aside0.mk H
                 clear H
                 go_wp2
                 go_roundg kj15
                 case measure => have := HJ2.out; have := HK2.out; have := HJ5.out; have := HJ11.out; have := HJ13.out; have := HJ15.out; omega
                 case rel => exact ⟨(x5_2), (true), (wrap64 (x7_2 + 1)), zb4, zb4, zb4, H', ⟨by have := HJ2.out; have := HK2.out; have := HJ5.out; have := HJ11.out; have := HJ13.out; have := HJ15.out; omega⟩, ⟨by repeat (first | (with_reducible first | exact HB.out | apply below_alloc | apply pw_below_drewN | apply below_drew1) | exact HB.out)⟩⟩
         ·rw [if_neg c10] at H
          exact absurd H zb22
        ·rw [if_neg c9] at H
         exact absurd H zb22
       ·replace c8 := Bool.eq_false_iff.mpr c8
        subst c8
        replace H : (some x5_2) = some r := by rw [if_neg (show ¬ (false = true) by decide)] at H; exact H
        obtain rfl := Option.some.inj H
        go_wp2
        go_ret
        exact ⟨zb3, zb0⟩
end Go.Proofs.YteonhdfjfjpbjaaGreatDoor.P
/- SpV -/
namespace Go.Proofs.YteonhdfjfjpbjaaGreatDoor.Sp
open Go.RowKit Go.Proofs.YteonhdfjfjpbjaaGreatDoorW.PrintWords Go.Proofs.YteonhdfjfjpbjaaGreatDoorW.PrintLast Go.Proofs.YteonhdfjfjpbjaaGreatDoor.O Go.Proofs.YteonhdfjfjpbjaaGreatDoor.P
set_option linter.unusedVariables false
set_option linter.unusedSimpArgs false
def pc : L → Option L
  | [] => some []
  | c :: r => if c = 37 then (match r with
      | a :: b :: t => if hexB a = true ∧ hexB b = true then (pc t).map (hx2 a b :: ·) else none
      | _ => none) else (pc r).map (c :: ·)
theorem pc_plain (y : L) : ∀ (x : L), 37 ∉ x → pc (x ++ y) = (pc y).map (x ++ ·)
  | [], _ => by rw [List.nil_append]; cases pc y <;> simp
  | c :: x, h => by
    have hc : c ≠ 37 := fun e => h (by simp [e])
    rw [List.cons_append, pc.eq_def]
    simp only [hc, if_false]
    rw [pc_plain y x (fun e => h (by simp [e]))]
    cases pc y <;> rfl
theorem perc_pc : ∀ (d f : Nat) (s : L), s.length ≤ d → d < f → perc f s = pc s := by
  intro d
  induction d with
  | zero =>
    intro f s hs hf
    obtain ⟨f, rfl⟩ : ∃ f', f = f' + 1 := ⟨f - 1, by omega⟩
    obtain rfl : s = [] := List.eq_nil_of_length_eq_zero (by omega)
    rw [perc, cut1_none (by simp)]
    rfl
  | succ d ih =>
    intro f s hs hf
    obtain ⟨f, rfl⟩ : ∃ f', f = f' + 1 := ⟨f - 1, by omega⟩
    rcases index1 37 s with ⟨e1, _⟩ | ⟨x, y, e1, e2, _⟩
    · rw [perc, cut1_none e1, if_neg (by simp)]
      have := pc_plain [] s e1
      rw [List.append_nil] at this
      rw [this]
      simp [pc]
    · have hsz : s.length = x.length + (y.length + 1) := by rw [e1]; simp
      have e := cut1_some x y e2
      rw [e1, pc_plain (37 :: y) x e2, perc, e]
      simp only [if_true]
      match y, hsz with
      | [], _ => rfl
      | [a], _ => rfl
      | a :: b :: t, hsz =>
        simp only [List.length_cons] at hsz
        rw [pc.eq_def]
        simp only [if_true]
        rw [ih f t (by omega) (by omega)]
        by_cases h : hexB a = true ∧ hexB b = true
        · rw [if_pos h, if_pos h]
          cases pc t <;> simp
        · rw [if_neg h, if_neg h]
          rfl
theorem percS_pc (s : L) : percS s = pc s := perc_pc s.length _ s (Nat.le_refl _) (Nat.lt_succ_self _)
theorem rhex20_all : ∀ a : Fin 256, broadsheetref20_hex.f 2 ((UInt8.ofNat a.val).toNat : Int) = some (hexR (UInt8.ofNat a.val)) := by decide +kernel
theorem rhex20F (c : UInt8) (k : Nat) (hk : 2 ≤ k) : broadsheetref20_hex.f k (c.toNat : Int) = some (hexR c) := by
  obtain ⟨k, rfl⟩ : ∃ k', k = k' + 2 := ⟨k - 2, by omega⟩
  obtain ⟨a, rfl⟩ := u8_fin c
  rw [← rhex20_all a]
  rfl
theorem hexR_val {c : UInt8} (h : hexB c = true) : hexR c = (((hexV c).getD 0 : Nat) : Int) := by
  unfold hexR
  unfold hexB at h
  cases e : hexV c with
  | none => rw [e] at h; simp at h
  | some n => rfl
theorem hexR_lt (c : UInt8) : hexR c < 0 ↔ ¬ hexB c = true := by
  have := hexR_ge c
  cases e : hexB c with
  | true => rw [e] at this; simp at this ⊢; omega
  | false => rw [e] at this; simp at this ⊢; omega
theorem rperc_l0 (s : L) (hs : s.length ≤ 1000000) : ∀ (d k i : Nat) (acc : L), s.length - i ≤ d → i ≤ s.length → 2 * d + 6 ≤ k → acc.length ≤ i →
    broadsheetref20_Percent.l0 k (mk s) (nums acc) i = some (percR acc (pc (s.drop i))) := by
  intro d
  induction d with
  | zero =>
    intro k i acc hd hi hk ha
    obtain ⟨k, rfl⟩ : ∃ k', k = k' + 1 := ⟨k - 1, by omega⟩
    rw [broadsheetref20_Percent.l0, if_neg (by rw [mk_size]; omega), List.drop_eq_nil_of_le (by omega), nums_str]
    simp [percR, pc]
  | succ d ih =>
    intro k i acc hd hi hk ha
    obtain ⟨k, rfl⟩ : ∃ k', k = k' + 2 := ⟨k - 2, by omega⟩
    by_cases hlt : i < s.length
    · obtain ⟨b, e1, e2⟩ := mk_bt s i hlt
      rw [broadsheetref20_Percent.l0, if_pos (by rw [mk_size]; omega), if_pos (by omega), e2, w2 i (by omega), w1 i (by omega), e1, pc.eq_def]
      simp only
      by_cases hb : b = 37
      · subst hb
        rw [if_pos (by decide), if_pos rfl]
        by_cases h2 : s.length ≤ i + 2
        · rw [if_pos (by rw [mk_size]; omega), broadsheetref20_Percent.j1, if_pos rfl]
          have hl : (s.drop (i + 1)).length ≤ 1 := by rw [List.length_drop]; omega
          match s.drop (i + 1), hl with
          | [], _ => rfl
          | [_], _ => rfl
        · obtain ⟨a, f1, f2⟩ := mk_bt s (i + 1) (by omega)
          obtain ⟨c, g1, g2⟩ := mk_bt s (i + 1 + 1) (by omega)
          rw [if_neg (by rw [mk_size]; omega), if_pos (by omega), if_pos (by rw [mk_size]; omega), f2, rhex20F a _ (by omega), Option.bind_some, f1, g1]
          simp only
          by_cases ha' : hexB a = true
          · rw [if_neg (fun h => (hexR_lt a).1 h ha'), if_pos (by omega), if_pos (by rw [mk_size]; omega), g2, rhex20F c _ (by omega), Option.bind_some]
            by_cases hc : hexB c = true
            · have va := hexV_lt a
              have vc := hexV_lt c
              have e16 : (wrap64 (wrap64 (hexR a * 16) + hexR c)) % 256 = ((hx2 a c).toNat : Int) := by
                rw [hexR_val ha', hexR_val hc, wrap_id (x := (((hexV a).getD 0 : Nat) : Int) * 16) (by omega) (by omega), wrap_id (by omega) (by omega), hx2_toNat]
                simp [hexN]
              rw [decide_eq_false (fun h => (hexR_lt c).1 h hc), broadsheetref20_Percent.j1, if_neg (by decide), w1 i (by omega), w2 i (by omega), if_pos (by omega), if_pos (by rw [mk_size]; omega), f2, rhex20F a _ (by omega), Option.bind_some,
                if_pos (by omega), if_pos (by rw [mk_size]; omega), g2, rhex20F c _ (by omega), Option.bind_some, e16, w1 (i + 2) (by omega), if_pos (by rw [nums_len]; omega), nums_snoc, if_pos ⟨ha', hc⟩]
              rw [ih k (i + 2 + 1) (acc ++ [hx2 a c]) (by omega) (by omega) (by omega) (by rw [List.length_append, List.length_singleton]; omega)]
              cases pc (s.drop (i + 2 + 1)) with
              | none => rfl
              | some q => simp [percR]
            · rw [decide_eq_true ((hexR_lt c).2 hc), broadsheetref20_Percent.j1, if_pos rfl, if_neg (fun h => hc h.2)]
              rfl
          · rw [if_pos ((hexR_lt a).2 ha'), broadsheetref20_Percent.j1, if_pos rfl, if_neg (fun h => ha' h.1)]
            rfl
      · have hne : ¬ (b.toNat : Int) = 37 := fun e => hb (UInt8.toNat_inj.1 (by simpa using (by omega : b.toNat = 37)))
        rw [if_neg hne, if_neg hb, if_pos (by rw [nums_len]; omega), nums_snoc]
        rw [ih (k + 1) (i + 1) (acc ++ [b]) (by omega) (by omega) (by omega) (by rw [List.length_append, List.length_singleton]; omega)]
        cases pc (s.drop (i + 1)) with
        | none => rfl
        | some q => simp [percR]
    · rw [broadsheetref20_Percent.l0, if_neg (by rw [mk_size]; omega), List.drop_eq_nil_of_le (by omega), nums_str]
      simp [percR, pc]
theorem rpercF (s : L) (k : Nat) (hs : s.length ≤ 1000000) (hk : 2 * s.length + 6 ≤ k) : broadsheetref20_Percent.f k (mk s) = some (percR [] (percS s)) := by
  rw [percS_pc]
  exact rperc_l0 s hs s.length k 0 [] (by omega) (by omega) hk (Nat.le_refl _)
def slB (c : UInt8) : Bool := decide (97 ≤ c.toNat) && decide (c.toNat ≤ 122) || decide (48 ≤ c.toNat) && decide (c.toNat ≤ 57)
def dsh (o : L) (gap : Bool) : L := if gap = true ∧ o.length < 19 then o ++ [45] else o
def sg : L → L → Bool → L
  | [], o, _ => o
  | c :: r, o, gap => if slB c = true then (if (dsh o gap).length = 20 then dsh o gap else sg r (dsh o gap ++ [c]) false) else sg r o (decide (0 < o.length))
theorem slI_b (c : UInt8) : slI (c.toNat : Int) = slB c := by
  unfold slI slB
  rw [Bool.eq_iff_iff]
  simp only [Bool.or_eq_true, Bool.and_eq_true, decide_eq_true_eq]
  omega
theorem dash_nums (o : L) (g : Bool) : dash (nums o) g = nums (dsh o g) := by
  unfold dash dsh
  rw [nums_len]
  split
  · simp [nums]
  · rfl
theorem sgL_nums : ∀ (l o : L) (g : Bool), sgL (nums l) (nums o) g = nums (sg l o g)
  | [], o, g => rfl
  | c :: r, o, g => by
    show sgL ((c.toNat : Int) :: nums r) (nums o) g = _
    rw [sgL, sg, slI_b, dash_nums, nums_len, nums_snoc, nums_len]
    by_cases h : slB c = true
    · rw [if_pos h, if_pos h]
      by_cases h2 : (dsh o g).length = 20
      · rw [if_pos h2, if_pos h2]
      · rw [if_neg h2, if_neg h2, sgL_nums r]
    · rw [if_neg h, if_neg h, sgL_nums r]
theorem btl_nums (l : L) : btl (mk l) = nums l := by
  apply List.ext_getElem
  · simp [btl, nums, mk_size]
  · intro i h1 h2
    have hi : i < l.length := by rw [nums_len] at h2; exact h2
    obtain ⟨b, e1, e2⟩ := mk_bt l i hi
    have hb : b = l[i] := by
      rw [List.drop_eq_getElem_cons hi] at e1
      exact (List.cons.inj e1).1.symm
    simp only [btl, nums, List.getElem_map, List.getElem_range]
    rw [e2, hb]
def slugS (s : L) : L := sg (low (slugT s)) [] false
theorem slugB_eq (s : L) : slugB s = mk (slugS s) := by
  unfold slugB slugS
  rw [btl_nums, show ([] : List Int) = nums [] from rfl, sgL_nums, nums_str]
theorem slugF (s : L) (hs : s.length ≤ 1000000) : request_Slug.f (mk s) = some (mk (slugS s)) := by
  unfold request_Slug.f
  rw [if_pos (by rw [mk_size]; exact hs), mk_data, slugB_eq]
theorem sg_full : ∀ (l o : L) (g : Bool), o.length = 20 → sg l o g = o
  | [], o, g, h => rfl
  | c :: r, o, g, h => by
    have hd : dsh o g = o := by unfold dsh; rw [if_neg (by omega)]
    rw [sg, hd, if_pos h]
    split
    · rfl
    · exact sg_full r o _ h
theorem slB_chain {α : Type} (c : UInt8) (j : Bool → α) : (if (c.toNat : Int) ≥ 97 then (if (c.toNat : Int) ≤ 122 then j true else (if (c.toNat : Int) ≥ 48 then j (decide ((c.toNat : Int) ≤ 57)) else j false)) else (if (c.toNat : Int) ≥ 48 then j (decide ((c.toNat : Int) ≤ 57)) else j false)) = j (slB c) := by
  unfold slB
  by_cases h1 : (c.toNat : Int) ≥ 97
  · rw [if_pos h1, decide_eq_true (p := 97 ≤ c.toNat) (by omega)]
    by_cases h2 : (c.toNat : Int) ≤ 122
    · rw [if_pos h2, decide_eq_true (p := c.toNat ≤ 122) (by omega)]; rfl
    · rw [if_neg h2, if_pos (by omega), decide_eq_false (p := c.toNat ≤ 122) (by omega), decide_eq_false (p := (c.toNat : Int) ≤ 57) (by omega), decide_eq_false (p := c.toNat ≤ 57) (by omega)]
      simp
  · rw [if_neg h1, decide_eq_false (p := 97 ≤ c.toNat) (by omega)]
    by_cases h3 : (c.toNat : Int) ≥ 48
    · rw [if_pos h3, decide_eq_true (p := 48 ≤ c.toNat) (by omega)]
      by_cases h4 : (c.toNat : Int) ≤ 57
      · rw [decide_eq_true h4, decide_eq_true (p := c.toNat ≤ 57) (by omega)]; rfl
      · rw [decide_eq_false h4, decide_eq_false (p := c.toNat ≤ 57) (by omega)]; rfl
    · rw [if_neg h3, decide_eq_false (p := 48 ≤ c.toNat) (by omega)]; rfl
theorem rslug_l0 (t : L) (ht : t.length ≤ 1000000) : ∀ (d k i : Nat) (o : L) (g : Bool), i + d = t.length → 6 * d + 8 ≤ k → o.length ≤ 20 →
    broadsheetref20_Slug.l0 k (mk t) (mk o) g i = some (mk (sg (low (t.drop i)) o (g && decide (o ≠ [])))) := by
  intro d
  induction d with
  | zero =>
    intro k i o g hi hk ho
    obtain ⟨k, rfl⟩ : ∃ k', k = k' + 2 := ⟨k - 2, by omega⟩
    rw [broadsheetref20_Slug.l0, if_neg (by rw [mk_size]; omega), broadsheetref20_Slug.j2, if_neg (by decide), List.drop_eq_nil_of_le (by omega)]
    rfl
  | succ d ih =>
    intro k i o g hi hk ho
    obtain ⟨k, rfl⟩ : ∃ k', k = k' + 6 := ⟨k - 6, by omega⟩
    obtain ⟨b, e1, e2⟩ := mk_bt t i (by omega)
    rw [broadsheetref20_Slug.l0, if_pos (by rw [mk_size]; omega), broadsheetref20_Slug.j2, mk_size, e1, show low (b :: t.drop (i + 1)) = lowB b :: low (t.drop (i + 1)) from rfl]
    by_cases h20 : o.length = 20
    · rw [decide_eq_false (by omega), if_neg (by decide), sg_full _ _ _ h20]
    rw [decide_eq_true (by omega), if_pos rfl, if_pos (by omega), if_pos (by rw [mk_size]; omega), e2]
    have hj3 : (if (b.toNat : Int) ≥ 65 then (broadsheetref20_Slug.j3 (k + 4) (mk t) (mk o) g i (b.toNat : Int) (decide ((b.toNat : Int) ≤ 90))) else (broadsheetref20_Slug.j3 (k + 4) (mk t) (mk o) g i (b.toNat : Int) false)) = broadsheetref20_Slug.j4 (k + 3) (mk t) (mk o) g i ((lowB b).toNat : Int) := by
      by_cases h : 65 ≤ b.toNat ∧ b.toNat ≤ 90
      · rw [if_pos (by omega), decide_eq_true (by omega), broadsheetref20_Slug.j3, if_pos rfl, lowB_int b h]
      · have hl : lowB b = b := by unfold lowB; rw [if_neg h]
        rw [hl]
        by_cases h1 : (b.toNat : Int) ≥ 65
        · rw [if_pos h1, decide_eq_false (by omega), broadsheetref20_Slug.j3, if_neg (by decide)]
        · rw [if_neg h1, broadsheetref20_Slug.j3, if_neg (by decide)]
    rw [show k + 4 = k + 4 from rfl] at hj3
    rw [hj3, broadsheetref20_Slug.j4, slB_chain (lowB b) (fun z => broadsheetref20_Slug.j5 (k + 2) (mk t) (mk o) g i ((lowB b).toNat : Int) z), broadsheetref20_Slug.j5, sg]
    by_cases hs : slB (lowB b) = true
    · rw [if_pos hs, if_pos hs, tl_mk]
      have hj6 : (if g = true then (if o = [] then (broadsheetref20_Slug.j6 (k + 1) (mk t) (mk o) i ((lowB b).toNat : Int) false) else (broadsheetref20_Slug.j6 (k + 1) (mk t) (mk o) i ((lowB b).toNat : Int) (decide (((mk o).size : Int) < 19)))) else (broadsheetref20_Slug.j6 (k + 1) (mk t) (mk o) i ((lowB b).toNat : Int) false)) = broadsheetref20_Slug.j6 (k + 1) (mk t) (mk o) i ((lowB b).toNat : Int) (decide ((g && decide (o ≠ [])) = true ∧ o.length < 19)) := by
        rw [mk_size]
        cases g with
        | false => simp
        | true =>
          by_cases h0 : o = []
          · simp [h0]
          · rw [if_pos rfl, if_neg h0]
            congr 1
            rw [decide_eq_decide]
            simp [h0]
            omega
      rw [hj6, broadsheetref20_Slug.j6]
      simp only [Option.bind_some]
      have hone : strOfNums [((lowB b).toNat : Int)] = mk [lowB b] := nums_str [lowB b]
      have hrec : ∀ o' : L, o'.length ≤ 20 → o' ≠ [] → broadsheetref20_Slug.l0 k (mk t) (mk o') false (wrap64 ((i : Int) + 1)) = some (mk (sg (low (t.drop (i + 1))) o' false)) := by
        intro o' h1 h2
        rw [w1 i (by omega)]
        have := ih k (i + 1) o' false (by omega) (by omega) h1
        rw [Bool.false_and] at this
        exact this
      unfold dsh
      by_cases hd : (g && decide (o ≠ [])) = true ∧ o.length < 19
      · rw [if_pos (decide_eq_true hd), if_pos hd, hone, show (⟨#[45]⟩ : ByteArray) = mk [45] from rfl, mk_append, if_pos (by rw [mk_size]; omega), if_pos (by rw [mk_size, List.length_append, List.length_singleton]; omega), if_pos (by rw [mk_size, mk_size, List.length_append, List.length_singleton, List.length_singleton]; omega), mk_append,
          if_neg (by rw [List.length_append, List.length_singleton]; omega)]
        exact hrec (o ++ [45] ++ [lowB b]) (by simp only [List.length_append, List.length_singleton]; omega) (by simp)
      · rw [if_neg (fun h => hd (of_decide_eq_true h)), if_neg hd, hone, if_pos (by rw [mk_size]; omega), if_pos (by rw [mk_size, mk_size, List.length_singleton]; omega), mk_append, if_neg h20]
        exact hrec (o ++ [lowB b]) (by simp only [List.length_append, List.length_singleton]; omega) (by simp)
    · rw [if_neg hs, if_neg hs, w1 i (by omega)]
      have := ih (k + 1) (i + 1) o true (by omega) (by omega) ho
      rw [this, Bool.true_and]
      congr 3
      rw [decide_eq_decide]
      exact List.length_pos_iff.symm
theorem rslugF (s : L) (k : Nat) (hs : s.length ≤ 1000000) (hk : 6 * s.length + 10 ≤ k) : broadsheetref20_Slug.f k (mk s) = some (mk (slugS s)) := by
  obtain ⟨k, rfl⟩ : ∃ k', k = k' + 1 := ⟨k - 1, by omega⟩
  unfold broadsheetref20_Slug.f
  rw [rpercF s _ hs (by omega), Option.bind_some]
  have hl := slugT_len s
  have key := rslug_l0 (slugT s) (by omega) (slugT s).length k 0 [] false (by omega) (by omega) (by simp)
  rw [List.drop_zero, Bool.false_and] at key
  unfold slugS
  rw [← key]
  unfold slugT percR
  cases percS s with
  | none => simp only; rw [if_neg (by decide), broadsheetref20_Slug.j0]; rfl
  | some t => simp only [if_true, List.nil_append]; rw [broadsheetref20_Slug.j0]; rfl
def awA : L := [71, 69, 84, 32, 47, 32, 72, 84, 84, 80, 47, 49, 46, 49, 13, 10, 72, 111, 115, 116, 58, 32, 97, 13, 10, 13, 10]
def awB : L := [71, 69, 84, 32, 47, 32, 72, 84, 84, 80, 47, 49, 46, 48, 13, 10, 13, 10]
def awC : L := [84, 104, 101, 32, 66, 101, 97, 99, 104, 32, 97, 116, 32, 83, 37, 67, 51, 37, 65, 56, 116, 101]
theorem firstS_eq (a b c : L) : firstS a b c = (decide (c = httpL) && (decide (b.head? = some 47) && b.all tgB) && decide ((tok a).1 ≠ []) && decide ((tok a).2 = [])) := by unfold firstS; rw [target_eq]
theorem first_a : firstS [71, 69, 84] [47] httpL = true := by rw [firstS_eq]; decide +kernel
theorem req_a : reqS awA = ([71, 69, 84], [47], [([104, 111, 115, 116], [97])], [], 0) := by
  have e1 : line awA = some ([71, 69, 84, 32, 47, 32, 72, 84, 84, 80, 47, 49, 46, 49], [72, 111, 115, 116, 58, 32, 97, 13, 10, 13, 10]) := by decide +kernel
  have e2 : Mn.cut 32 [71, 69, 84, 32, 47, 32, 72, 84, 84, 80, 47, 49, 46, 49] = [[71, 69, 84], [47], httpL] := by decide +kernel
  have e3 : restS [71, 69, 84] [47] [72, 111, 115, 116, 58, 32, 97, 13, 10, 13, 10] = ([71, 69, 84], [47], [([104, 111, 115, 116], [97])], [], 0) := by decide +kernel
  unfold reqS
  rw [e1]
  simp only
  rw [if_neg (by decide), e2]
  simp only
  rw [if_pos first_a, e3]
theorem req_b : reqS awB = zq 200 := by
  have e1 : line awB = some ([71, 69, 84, 32, 47, 32, 72, 84, 84, 80, 47, 49, 46, 48], [13, 10]) := by decide +kernel
  have e2 : Mn.cut 32 [71, 69, 84, 32, 47, 32, 72, 84, 84, 80, 47, 49, 46, 48] = [[71, 69, 84], [47], [72, 84, 84, 80, 47, 49, 46, 48]] := by decide +kernel
  unfold reqS
  rw [e1]
  simp only
  rw [if_neg (by decide), e2]
  simp only
  rw [if_neg (by rw [firstS_eq]; decide +kernel)]
theorem slug_c : slugS awC = [116, 104, 101, 45, 98, 101, 97, 99, 104, 45, 97, 116, 45, 115, 45, 116, 101] := by
  unfold slugS slugT
  rw [percS_pc]
  decide +kernel
theorem awake20 : broadsheetlaw20_awake.f = some true := by
  unfold broadsheetlaw20_awake.f
  rw [show (⟨#[71, 69, 84, 32, 47, 32, 72, 84, 84, 80, 47, 49, 46, 49, 13, 10, 72, 111, 115, 116, 58, 32, 97, 13, 10, 13, 10]⟩ : ByteArray) = mk awA from rfl, show (⟨#[71, 69, 84, 32, 47, 32, 72, 84, 84, 80, 47, 49, 46, 48, 13, 10, 13, 10]⟩ : ByteArray) = mk awB from rfl,
    show (⟨#[84, 104, 101, 32, 66, 101, 97, 99, 104, 32, 97, 116, 32, 83, 37, 67, 51, 37, 65, 56, 116, 101]⟩ : ByteArray) = mk awC from rfl, parseF awA (by decide), parseF awB (by decide), slugF awC (by decide), req_a, req_b, slug_c]
  simp only [Option.bind_some, reqT, zq, tl_mk]
  simp [pairsB]
def okL (t : L) : Prop := ∀ a c b, t = a ++ c :: b → slB c = true ∨ (c = 45 ∧ a ≠ [] ∧ b ≠ [] ∧ a.getLast? ≠ some 45)
theorem okL_nil : okL [] := fun a c b h => by simp at h
theorem okL_last {o : L} (h : okL o) : o.getLast? ≠ some 45 := by
  rcases List.eq_nil_or_concat o with rfl | ⟨a, c, rfl⟩
  · simp
  · rw [List.concat_eq_append] at h ⊢
    rcases h a c [] rfl with hc | ⟨_, _, hb, _⟩
    · rw [List.getLast?_concat]
      intro e
      obtain rfl := Option.some.inj e
      exact absurd hc (by decide)
    · exact absurd rfl hb
theorem okL_snoc {o : L} {c : UInt8} (h : okL o) (hc : slB c = true) : okL (o ++ [c]) := by
  intro a d b he
  rcases List.eq_nil_or_concat b with rfl | ⟨b', x, rfl⟩
  · have h2 : o = a ∧ c = d := by
      have := List.append_inj' he rfl
      exact ⟨this.1, by simpa using this.2⟩
    obtain ⟨rfl, rfl⟩ := h2
    exact .inl hc
  · rw [List.concat_eq_append] at he ⊢
    have he2 : o ++ [c] = (a ++ d :: b') ++ [x] := by rw [he]; simp
    have := List.append_inj' he2 rfl
    rcases h a d b' this.1 with h1 | ⟨h1, h2, _, h4⟩
    · exact .inl h1
    · exact .inr ⟨h1, h2, by simp, h4⟩
theorem okL_dash {o : L} {c : UInt8} (h : okL o) (h0 : o ≠ []) (hc : slB c = true) : okL (o ++ [45] ++ [c]) := by
  intro a d b he
  rcases List.eq_nil_or_concat b with rfl | ⟨b', x, rfl⟩
  · have h2 := List.append_inj' he rfl
    have : c = d := by simpa using h2.2
    subst this
    exact .inl hc
  · rw [List.concat_eq_append] at he ⊢
    have he2 : (o ++ [45]) ++ [c] = (a ++ d :: b') ++ [x] := by rw [he]; simp
    have h2 := (List.append_inj' he2 rfl).1
    rcases List.eq_nil_or_concat b' with rfl | ⟨b'', y, rfl⟩
    · have h3 := List.append_inj' h2 rfl
      have h4 : d = 45 := by simpa using h3.2.symm
      refine .inr ⟨h4, ?_, by simp, ?_⟩
      · rw [← h3.1]; exact h0
      · rw [← h3.1]; exact okL_last h
    · rw [List.concat_eq_append] at h2 ⊢
      have he3 : o ++ [45] = (a ++ d :: b'') ++ [y] := by rw [h2]; simp
      have := (List.append_inj' he3 rfl).1
      rcases h a d b'' this with h1 | ⟨h1, h2, _, h4⟩
      · exact .inl h1
      · exact .inr ⟨h1, h2, by simp, h4⟩
theorem sg_ok : ∀ (l o : L) (g : Bool), okL o → o.length ≤ 20 → (g = true → o ≠ []) → okL (sg l o g) ∧ (sg l o g).length ≤ 20
  | [], o, g, h, hl, _ => ⟨h, hl⟩
  | c :: r, o, g, h, hl, hg => by
    rw [sg]
    by_cases hc : slB c = true
    · rw [if_pos hc]
      unfold dsh
      by_cases hd : g = true ∧ o.length < 19
      · rw [if_pos hd, if_neg (by rw [List.length_append, List.length_singleton]; omega)]
        exact sg_ok r _ false (okL_dash h (hg hd.1) hc) (by simp only [List.length_append, List.length_singleton]; omega) (fun e => by cases e)
      · rw [if_neg hd]
        by_cases h20 : o.length = 20
        · rw [if_pos h20]; exact ⟨h, hl⟩
        · rw [if_neg h20]
          exact sg_ok r _ false (okL_snoc h hc) (by rw [List.length_append, List.length_singleton]; omega) (fun e => by cases e)
    · rw [if_neg hc]
      exact sg_ok r o _ h hl (fun e => List.length_pos_iff.1 (of_decide_eq_true e))
theorem slugS_ok (s : L) : okL (slugS s) ∧ (slugS s).length ≤ 20 := sg_ok _ [] false okL_nil (by simp) (fun e => by cases e)
theorem sg_id : ∀ (n : Nat) (r o : L), r.length ≤ n → okL (o ++ r) → (o ++ r).length ≤ 20 → sg r o false = o ++ r := by
  intro n
  induction n with
  | zero =>
    intro r o hn h hl
    obtain rfl : r = [] := List.eq_nil_of_length_eq_zero (by omega)
    rw [List.append_nil]
    rfl
  | succ n ih =>
    intro r o hn h hl
    match r, hn, h, hl with
    | [], _, _, _ => rw [List.append_nil]; rfl
    | c :: r, hn, h, hl =>
      simp only [List.length_append, List.length_cons] at hn hl
      rw [sg]
      by_cases hc : slB c = true
      · have hd : dsh o false = o := by unfold dsh; rw [if_neg (fun e => by cases e.1)]
        rw [if_pos hc, hd, if_neg (by omega)]
        have e : o ++ c :: r = (o ++ [c]) ++ r := by simp
        rw [e] at h ⊢
        exact ih r (o ++ [c]) (by omega) h (by simp only [List.length_append, List.length_singleton]; omega)
      · rw [if_neg hc]
        rcases h o c r rfl with h1 | ⟨rfl, h2, h3, h4⟩
        · exact absurd h1 hc
        · match r, hn, h, hl, h3 with
          | [], _, _, _, h3 => exact absurd rfl h3
          | d :: r, hn, h, hl, _ =>
            simp only [List.length_cons] at hn hl
            have hp := List.length_pos_iff.2 h2
            have hd : slB d = true := by
              rcases h (o ++ [45]) d r (by simp) with h1 | ⟨_, _, _, h5⟩
              · exact h1
              · exact absurd (List.getLast?_concat) h5
            have e : o ++ 45 :: d :: r = (o ++ [45] ++ [d]) ++ r := by simp
            have hds : dsh o (decide (0 < o.length)) = o ++ [45] := by
              unfold dsh
              rw [if_pos ⟨decide_eq_true hp, by omega⟩]
            rw [sg, if_pos hd, hds, if_neg (by rw [List.length_append, List.length_singleton]; omega), e]
            rw [e] at h
            exact ih r _ (by omega) h (by simp only [List.length_append, List.length_singleton]; omega)
theorem okL_mem {t : L} (h : okL t) : ∀ c ∈ t, slB c = true ∨ c = 45 := by
  intro c hc
  obtain ⟨a, b, rfl⟩ := List.append_of_mem hc
  rcases h a c b rfl with h1 | ⟨h1, _⟩
  · exact .inl h1
  · exact .inr h1
theorem slB_low : ∀ a : Fin 256, (slB (UInt8.ofNat a.val) = true ∨ UInt8.ofNat a.val = 45) → lowB (UInt8.ofNat a.val) = UInt8.ofNat a.val ∧ UInt8.ofNat a.val ≠ 37 := by decide +kernel
theorem slug_self (s : L) : slugS (slugS s) = slugS s := by
  obtain ⟨h, hl⟩ := slugS_ok s
  have hm : ∀ c ∈ slugS s, lowB c = c ∧ c ≠ 37 := fun c hc => by
    obtain ⟨a, rfl⟩ := u8_fin c
    exact slB_low a (okL_mem h _ hc)
  generalize slugS s = t at *
  have e1 : slugT t = t := by
    unfold slugT
    rw [percS_pc]
    have := pc_plain [] t (fun e => (hm 37 e).2 rfl)
    rw [List.append_nil] at this
    rw [this]
    simp [pc]
  have e2 : low t = t := by
    unfold low
    conv => rhs; rw [← List.map_id t]
    exact List.map_congr_left (fun c hc => (hm c hc).1)
  unfold slugS
  rw [e1, e2]
  exact sg_id t.length t [] (Nat.le_refl _) h hl
end Go.Proofs.YteonhdfjfjpbjaaGreatDoor.Sp
/- CardW -/
namespace Go.Proofs.YteonhdfjfjpbjaaGreatDoor.Cg
open Go.RowKit Go.Proofs.YteonhdfjfjpbjaaGreatDoor.P Go.Proofs.YteonhdfjfjpbjaaGreatDoorW.PrintWords Go.Proofs.YteonhdfjfjpbjaaGreatDoorW.PrintLast Go.Proofs.YteonhdfjfjpbjaaGreatDoor.O
open Go.ChangeShapes Go.WideShapes Go.Deep
set_option linter.unusedVariables false
/-- The plain wrap, with a condition of one's own and the world's shape. -/
theorem wrapS {H : Type} {enc : TypeId × Value → H} {a : Assume} {C : Checked} {os : Os} {f : FuncId} {fn : Func} {s : ChangeSpec} {conds : List PathCond} {apart fresh handsOn again : Bool} {X : World → Array Value → Prop}
    (hX : ∀ (w w' : World) (args : Array Value), w.heap = w'.heap → X w args → X w' args)
    (own : ownKnob C.prog.godebug = none) (started : os.Started) (noInit : C.prog.inits.idxOf? f = none) (hfn : C.prog.funcs[f]? = some fn)
    (witness : ∃ (w : World) (tape : Tape) (i : Input), w.os = os ∧ (w.forCall tape i).Shaped C.prog ∧ i.vars = [] ∧ Input.okWide C.prog (w.forCall tape i) .any w.heap.size f i ∧
      ((s.pre enc C.prog fn conds apart (w.forCall tape i).memory i.args ∧ X (w.forCall tape i).memory i.args) ∧ sizedMet enc C.prog fn (OpenSpec.ofChange s) apart (w.forCall tape i).memory i.args) ∧ a.holds C.prog (lone (Frame.enter C.prog f i.args .normal) [] (w.forCall tape i)))
    (contract : ∀ (W : World) (base : Nat) (args : Array Value) (ds gs : List (DataW H)) (before : List MemPlace),
      (∀ (j : Nat) t v, fn.params[j]? = some t → args[j]? = some v → Value.okWide C.prog W .any base t v) →
      DataW.Whole enc C.prog fn.params.toList s.vars apart W args.toList ds gs before →
      (DataW.weightsEach C.prog (fn.params.toList ++ s.plain.varTypes C.prog) (ds ++ gs)).all (· ≤ reachBytes) = true → X W args → W.ShapedOpen C.prog →
      Calls C.prog f args W fun e W' => ∃ v, e = .returned v ∧ s.post enc C.prog fn apart fresh handsOn again W args v W') :
    ReturnsInHanded a C os f .any (fun w args => (s.pre enc C.prog fn conds apart w args ∧ X w args) ∧ sizedMet enc C.prog fn (OpenSpec.ofChange s) apart w args) (s.post enc C.prog fn apart fresh handsOn again) := by
  refine returnsInHanded_of_calls own started noInit witness ?_
  intro w tape i _ hsh _ hok hpre _
  obtain ⟨_, _, _, fn', hfn', _, _, _, _, hval⟩ := hok
  obtain rfl : fn' = fn := Option.some.inj (hfn'.symm.trans hfn)
  obtain ⟨⟨⟨ds, gs, before, hw, _⟩, hx⟩, hz⟩ := hpre
  refine (contract (w.forCall tape i) w.heap.size i.args ds gs before hval (DataW.Whole.of_heap (w' := w.forCall tape i) (by rfl) hw) (hz.weights hw) (hX _ _ _ (by rfl) hx) hsh).mono fun e W' ⟨v, he, hp⟩ => ?_
  subst he
  exact ChangeSpec.post_blind hp
theorem var_iface {W : World} {n nm : String} {d : DataW Unit} {g t : Nat} {ms : Array (String × TypeId)} (h : Lib.VarReads Tryz.prog W n (.iface nm d)) (hg : Tryz.prog.globalNamed n = some g) (ht : (Tryz.prog.globals[g]?).map (·.type) = some t) (hi : Tryz.prog.underlying t = some (.interface ms)) :
    ∃ t p, W.var? Tryz.prog n = some #[.iface t p] := by
  obtain ⟨g', t', cs, fuel, p, hg', ht', hv, hd⟩ := h
  obtain rfl := Option.some.inj (hg.symm.trans hg')
  obtain rfl := Option.some.inj (ht.symm.trans ht')
  obtain ⟨_, u, v, e, _, _⟩ := iface_of_trod hi hd
  refine ⟨u, v, ?_⟩
  rw [hv]
  cases cs
  simp only at e
  rw [e]
abbrev laidL : List (String × DataW Unit) := Rows.chunkLongRow.laid
theorem glob_of {W : World} (h : laidMetH Tryz.prog laidL W) (hsh : W.ShapedOpen Tryz.prog) : Glob W := by
  rw [MakeChecks.laidMetH_plain _ _ _ (by kernel_rfl)] at h
  refine ⟨?_, ?_, ?_, ?_, ?_⟩
  · obtain ⟨g', t', cs, fuel, p, hg', ht', hv, hd⟩ := Lib.laidMet.reads h (n := "internal/strconv.uint64pow10") (d := Rows.laid_internal_strconv_uint64pow10) (.tail _ (.tail _ (.head _)))
    obtain rfl := Option.some.inj (gpow.symm.trans hg')
    obtain rfl := Option.some.inj ((show (Tryz.prog.globals[0]?).map (·.type) = some 138 by kernel_rfl).symm.trans ht')
    have hd' : DataW.trod (fun _ => ()) Tryz.prog W 0 (fun _ => true) false fuel 138 cs.toList = some (Lib.tabData .u64 (Lib.pow10Tab), p) := hd
    unfold Lib.TabIs
    rw [hv, ← Lib.cells_of_tab Tryz.underlying138 Tryz.underlying82 (by kernel_rfl) (by kernel_rfl) hd']
  · have hb : ((begin Tryz.prog (fun _ _ => 0) default).world.heap[1]?).bind Obj.row? = some (#[.int .i64 0], 3) := by kernel_rfl
    obtain ⟨m, hm⟩ := cell_of_shapedOpen_int hsh (of_decide_eq_true (by kernel_rfl)) hb rfl (by kernel_rfl) (by kernel_rfl) Tryz.underlying3
    obtain ⟨cs, hh, hs, _⟩ := hsh.1 _ _ _ (of_decide_eq_true (by kernel_rfl)) hb
    refine ⟨m, ?_⟩
    have h1 : 0 < cs.size := by rw [hs]; decide
    have hc : cs[0] = .int .i64 m := by
      have : W.cell? ⟨1, 0, none⟩ = some cs[0] := by simp [World.cell?, hh, h1]
      exact Option.some.inj (this.symm.trans hm)
    unfold World.var?
    rw [gmlen]
    simp only [Option.bind_some, hh]
    congr 1
    apply Array.ext
    · rw [hs]; rfl
    · intro i hi1 hi2
      have : i = 0 := by rw [hs] at hi1; simp at hi1; exact hi1
      subst this
      rw [hc]; rfl
  · exact var_iface (Lib.laidMet.reads h (n := "strconv.ErrSyntax") (d := Rows.laid_strconv_ErrSyntax) (.tail _ (.tail _ (.tail _ (.tail _ (.tail _ (.head _))))))) gsyn (by kernel_rfl) Tryz.underlying56
  · exact var_iface (Lib.laidMet.reads h (n := "strconv.ErrRange") (d := Rows.laid_strconv_ErrRange) (.tail _ (.tail _ (.tail _ (.tail _ (.head _)))))) grng (by kernel_rfl) Tryz.underlying56
  · obtain ⟨g', t', cs, fuel, p, hg', ht', hv, hd⟩ := Lib.laidMet.reads h (n := "math/bits.deBruijn64tab") (d := Rows.laid_math_bits_deBruijn64tab) (.tail _ (.head _))
    obtain rfl := Option.some.inj (gbru.symm.trans hg')
    obtain rfl := Option.some.inj ((show (Tryz.prog.globals[7]?).map (·.type) = some 164 by kernel_rfl).symm.trans ht')
    have hd' : DataW.trod (fun _ => ()) Tryz.prog W 0 (fun _ => true) false fuel 164 cs.toList = some (Lib.tabData .u8 (Lib.deBruijn64tab.map Int.ofNat), p) := hd
    unfold Lib.TabIs
    rw [hv, ← Lib.cells_of_tab Tryz.underlying164 Tryz.underlying5 (by kernel_rfl) (by kernel_rfl) hd']
end Go.Proofs.YteonhdfjfjpbjaaGreatDoor.Cg
