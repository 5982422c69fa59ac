/- Texts of this seat, joined: lemmas and walks that its statements' proofs use. -/
import GoSem.Core.Float
import Derived.Test.YtghfbhobpodoeaaGreatDoorK1
import Derived.Lib.Hide
import Derived.Laws.Externs
import Derived.Laws.FloatArith
import Derived.Deep.DeepCutAuto
import Derived.Deep.CutBlock
import Derived.Laws.IdiomArrays
/- SpFl -/
namespace Go.Proofs.YtghfbhobpodoeaaGreatDoor.Sp
open Go Ieee
set_option linter.unusedVariables false
set_option linter.unusedSimpArgs false
abbrev infR : Nat := 9218868437227405312
def negB (x : Nat) : Bool := x / 2 ^ 63 % 2 == 1
def rungN (x : Nat) : Nat := x % 2 ^ 63
def nanB (x : Nat) : Bool := decide (infR < rungN x)
def keyI (x : Nat) : Int := if negB x then -(rungN x : Int) else (rungN x : Int)
def valN (r : Nat) : Nat := if r < 2 ^ 52 then r else (2 ^ 52 + r % 2 ^ 52) * 2 ^ (r / 2 ^ 52 - 1)
theorem val_lt {r s : Nat} (h : r < s) : valN r < valN s := by
  unfold valN
  by_cases h1 : s < 2 ^ 52
  · rw [if_pos h1, if_pos (by omega)]
    exact h
  · rw [if_neg h1]
    have hp : 1 ≤ 2 ^ (s / 2 ^ 52 - 1) := Nat.one_le_two_pow
    by_cases h2 : r < 2 ^ 52
    · rw [if_pos h2]
      calc r < 2 ^ 52 := h2
        _ ≤ 2 ^ 52 + s % 2 ^ 52 := Nat.le_add_right _ _
        _ = (2 ^ 52 + s % 2 ^ 52) * 1 := (Nat.mul_one _).symm
        _ ≤ _ := Nat.mul_le_mul_left _ hp
    · rw [if_neg h2]
      have hd : r / 2 ^ 52 ≤ s / 2 ^ 52 := Nat.div_le_div_right (Nat.le_of_lt h)
      rcases Nat.lt_or_ge (r / 2 ^ 52) (s / 2 ^ 52) with hlt | hge
      · have h3 : 2 ^ 52 + r % 2 ^ 52 < 2 ^ 53 := by omega
        have h4 : 1 ≤ r / 2 ^ 52 := by omega
        calc (2 ^ 52 + r % 2 ^ 52) * 2 ^ (r / 2 ^ 52 - 1) < 2 ^ 53 * 2 ^ (r / 2 ^ 52 - 1) := Nat.mul_lt_mul_of_pos_right h3 (Nat.two_pow_pos _)
          _ = 2 ^ 52 * 2 ^ (r / 2 ^ 52) := by
            rw [← Nat.pow_add, ← Nat.pow_add]
            congr 1
            omega
          _ ≤ 2 ^ 52 * 2 ^ (s / 2 ^ 52 - 1) := Nat.mul_le_mul_left _ (Nat.pow_le_pow_right (by omega) (by omega))
          _ ≤ _ := Nat.mul_le_mul_right _ (Nat.le_add_right _ _)
      · have he : r / 2 ^ 52 = s / 2 ^ 52 := by omega
        rw [he]
        refine Nat.mul_lt_mul_of_pos_right ?_ (Nat.two_pow_pos _)
        omega
theorem val_lt_iff {r s : Nat} : valN r < valN s ↔ r < s := by
  refine ⟨fun h => ?_, val_lt⟩
  rcases Nat.lt_trichotomy r s with h1 | h1 | h1
  · exact h1
  · subst h1; omega
  · have := val_lt h1; omega
theorem fl_sw : double.signWeight = 2 ^ 63 := by decide
theorem fl_bin : double.binade = 2 ^ 52 := by decide
theorem fl_inf : double.infRung = infR := by decide
theorem fl_lea : double.leastPlace = -1074 := by decide
theorem read_num {x : Nat} (h : rungN x < infR) : ∃ (m : Nat) (i : Int), double.read x = .number (negB x) m i ∧ -1074 ≤ i ∧ m * 2 ^ (i + 1074).toNat = valN (rungN x) := by
  unfold Format.read
  simp only [fl_sw, fl_bin, fl_inf, fl_lea]
  have h' : x % 2 ^ 63 < infR := h
  by_cases h1 : x % 2 ^ 63 < 2 ^ 52
  · rw [if_pos h1]
    refine ⟨_, _, rfl, by omega, ?_⟩
    unfold valN rungN
    rw [if_pos h1]
    simp
  · rw [if_neg h1, if_pos h']
    refine ⟨_, _, rfl, by omega, ?_⟩
    unfold valN rungN
    rw [if_neg h1]
    congr 2
    omega
theorem read_inf {x : Nat} (h : rungN x = infR) : double.read x = .infinity (negB x) := by
  unfold Format.read
  simp only [fl_sw, fl_bin, fl_inf, fl_lea]
  have h' : x % 2 ^ 63 = infR := h
  rw [if_neg (by rw [h']; decide), if_neg (by rw [h']; decide), if_pos h']
  rfl
theorem read_nan {x : Nat} (h : infR < rungN x) : ∃ f, double.read x = .nan (negB x) f := by
  unfold Format.read
  simp only [fl_sw, fl_bin, fl_inf, fl_lea]
  have h' : infR < x % 2 ^ 63 := h
  rw [if_neg (by unfold infR at h'; omega), if_neg (by omega), if_neg (by omega)]
  exact ⟨_, rfl⟩
theorem cmp_int (a b : Int) : compare a b = if a < b then .lt else if a = b then .eq else .gt := rfl
theorem cmp_same {a b c d : Int} (h1 : a < b ↔ c < d) (h2 : a = b ↔ c = d) : compare a b = compare c d := by
  rw [cmp_int, cmp_int]
  simp only [h1, h2]
theorem cmp_lt {a b : Int} (h : a < b) : compare a b = .lt := by rw [cmp_int, if_pos h]
theorem cmp_gt {a b : Int} (h : b < a) : compare a b = .gt := by rw [cmp_int, if_neg (by omega), if_neg (by omega)]
theorem order_num {s t : Bool} {m n : Nat} {i j : Int} {r q : Nat} (hi : -1074 ≤ i) (hj : -1074 ≤ j) (h1 : m * 2 ^ (i + 1074).toNat = valN r) (h2 : n * 2 ^ (j + 1074).toNat = valN q) :
    Datum.order (.number s m i) (.number t n j) = some (compare (if s then -(r : Int) else r) (if t then -(q : Int) else q)) := by
  simp only [Datum.order, signed]
  congr 1
  generalize hb : min i j = b
  have hb1 : b ≤ i := by omega
  have hb2 : b ≤ j := by omega
  have hb3 : -1074 ≤ b := by omega
  have e1 : (m <<< (i - b).toNat) * 2 ^ (b + 1074).toNat = valN r := by
    rw [← h1, Nat.shiftLeft_eq, Nat.mul_assoc, ← Nat.pow_add]
    congr 2
    omega
  have e2 : (n <<< (j - b).toNat) * 2 ^ (b + 1074).toNat = valN q := by
    rw [← h2, Nat.shiftLeft_eq, Nat.mul_assoc, ← Nat.pow_add]
    congr 2
    omega
  generalize m <<< (i - b).toNat = M at *
  generalize n <<< (j - b).toNat = N at *
  have hp := Nat.two_pow_pos (b + 1074).toNat
  generalize 2 ^ (b + 1074).toNat = p at *
  have k1 : M < N ↔ r < q := by rw [← val_lt_iff (r := r) (s := q), ← e1, ← e2]; exact (Nat.mul_lt_mul_right hp).symm
  have k2 : N < M ↔ q < r := by rw [← val_lt_iff (r := q) (s := r), ← e1, ← e2]; exact (Nat.mul_lt_mul_right hp).symm
  have z0 : valN 0 = 0 := by decide
  have k3 : 0 < M ↔ 0 < r := by
    rw [← val_lt_iff (r := 0) (s := r), ← e1, z0]
    exact ⟨fun h => Nat.mul_pos h hp, fun h => Nat.pos_of_mul_pos_right h⟩
  have k4 : 0 < N ↔ 0 < q := by
    rw [← val_lt_iff (r := 0) (s := q), ← e2, z0]
    exact ⟨fun h => Nat.mul_pos h hp, fun h => Nat.pos_of_mul_pos_right h⟩
  apply cmp_same
  · cases s <;> cases t <;> simp only [Bool.false_eq_true, if_true, if_false] <;> omega
  · cases s <;> cases t <;> simp only [Bool.false_eq_true, if_true, if_false] <;> omega
theorem order_key {x y : Nat} (hx : nanB x = false) (hy : nanB y = false) : FloatKind.f64.format.order x y = some (compare (keyI x) (keyI y)) := by
  have hx' : rungN x ≤ infR := by simpa [nanB] using hx
  have hy' : rungN y ≤ infR := by simpa [nanB] using hy
  show (double.read x).order (double.read y) = _
  rcases Nat.lt_or_eq_of_le hx' with h1 | h1
  · obtain ⟨m, i, e1, hi, v1⟩ := read_num h1
    rcases Nat.lt_or_eq_of_le hy' with h2 | h2
    · obtain ⟨n, j, e2, hj, v2⟩ := read_num h2
      rw [e1, e2, order_num hi hj v1 v2]
      rfl
    · rw [e1, read_inf h2]
      simp only [Datum.order, keyI]
      rw [h2]
      generalize infR = R at *
      cases negB y <;> cases negB x <;> simp only [Bool.false_eq_true, if_true, if_false] <;> first | exact congrArg some (cmp_lt (by omega)).symm | exact congrArg some (cmp_gt (by omega)).symm
  · rcases Nat.lt_or_eq_of_le hy' with h2 | h2
    · obtain ⟨n, j, e2, hj, v2⟩ := read_num h2
      rw [e2, read_inf h1]
      simp only [Datum.order, keyI]
      rw [h1]
      generalize infR = R at *
      cases negB y <;> cases negB x <;> simp only [Bool.false_eq_true, if_true, if_false] <;> first | exact congrArg some (cmp_lt (by omega)).symm | exact congrArg some (cmp_gt (by omega)).symm
    · rw [read_inf h1, read_inf h2]
      simp only [Datum.order, keyI]
      rw [h1, h2]
      cases negB y <;> cases negB x <;> decide
theorem order_nanL {x y : Nat} (hx : nanB x = true) : FloatKind.f64.format.order x y = none := by
  obtain ⟨f, h⟩ := read_nan (x := x) (by simpa [nanB] using hx)
  show (double.read x).order (double.read y) = _
  rw [h]
  rfl
theorem order_nanR {x y : Nat} (hy : nanB y = true) : FloatKind.f64.format.order x y = none := by
  obtain ⟨f, h⟩ := read_nan (x := y) (by simpa [nanB] using hy)
  show (double.read x).order (double.read y) = _
  rw [h]
  cases double.read x <;> rfl
end Go.Proofs.YtghfbhobpodoeaaGreatDoor.Sp
/- Oflt -/
namespace Go.Proofs.YtghfbhobpodoeaaGreatDoor.O
open Go.RowKit Go.Proofs.YtghfbhobpodoeaaGreatDoorW.PrintWords Go.Proofs.YtghfbhobpodoeaaGreatDoorW.PrintLast Go.Proofs.YtghfbhobpodoeaaGreatDoorW.PrintMore
set_option linter.unusedVariables false
set_option linter.unusedSimpArgs false
theorem bits_run (b : Nat) (w : World) : (callFunc 38 #[.float .f64 b]).run Tryz.prog w = .ok (.value (.int .u64 b)) w := by
  rw [run_callFunc_extern (e := Extern.MathFloatBits.float64bits) Tryz.func38 zb9 zb9 zb9 zb9]
  rfl
theorem frombits_run (n : Int) (w : World) : (callFunc 48 #[.int .u64 n]).run Tryz.prog w = .ok (.value (.float .f64 n.toNat)) w := by
  rw [run_callFunc_extern (e := Extern.MathFloatBits.float64frombits) Tryz.func48 zb9 zb9 zb9 zb9]
  rfl
def math_Signbit.f (a0 : Nat) : Option Bool := some (decide (wrap64 (a0 : Int) < 0))
theorem math_Signbit.calls (a0 : Nat) (r : Bool) (w : World) (h : math_Signbit.f a0 = some r) :
    Calls Tryz.prog 22 #[.float .f64 a0] w fun e w' => e = .returned (.bool r) ∧ Drawn0 w w' := by
  obtain rfl := Option.some.inj h
  clear h
  have hx := bits_run a0
  go_enter Tryz.func22, Tryz.ntmps22
  go_wp2
  go_ret
  exact ⟨rfl, Drawn0.refl _⟩
def math_NaN.f : Option Nat := some 9221120237041090561
theorem math_NaN.calls (r : Nat) (w : World) (h : math_NaN.f = some r) :
    Calls Tryz.prog 28 #[] w fun e w' => e = .returned (.float .f64 r) ∧ Drawn0 w w' := by
  obtain rfl := Option.some.inj h
  clear h
  have hx := frombits_run
  go_enter Tryz.func28, Tryz.ntmps28
  go_wp2
  go_ret
  exact ⟨rfl, Drawn0.refl _⟩
def one64 : Nat := 4607182418800017408
def clampW (a : Nat) : Nat := if (FloatKind.f64.format.order a 0 == some .gt) = true then (match FloatKind.f64.format.order a one64 with
  | some .lt => a
  | some .eq => if (FloatKind.f64.decode a).neg then a else one64
  | _ => one64) else 0
def quality_Clamp.f (a0 : Nat) : Option Nat := some (clampW a0)
theorem min_run {P : Program} (ts : Array TypeId) (t : TypeId) (x y : Nat) (o : Ordering) (ho : FloatKind.f64.format.order x y = some o) (w : World) :
    (Builtin.min_ ts t #[.float .f64 x, .float .f64 y]).run P w = .ok (.float .f64 (match o with
      | .lt => x
      | .gt => y
      | .eq => if (FloatKind.f64.decode x).neg then x else y)) w := by
  simp only [Builtin.min_, Builtin.min2, ho, List.foldlM]
  cases o <;> simp [Builtin.min2, ho]
theorem quality_Clamp.calls (a0 : Nat) (r : Nat) (w : World) (h : quality_Clamp.f a0 = some r) :
    Calls Tryz.prog 17 #[.float .f64 a0] w fun e w' => e = .returned (.float .f64 r) ∧ Drawn0 w w' := by
  obtain rfl := Option.some.inj h
  clear h
  by_cases hg : (FloatKind.f64.format.order a0 0 == some .gt) = true
  · have hg' : Hid ((FloatKind.f64.format.order a0 0 == some .gt) = true) := Lib.hid hg
    obtain ⟨o, ho⟩ : ∃ o, FloatKind.f64.format.order a0 one64 = some o := by
      cases hn : Sp.nanB a0 with
      | true => rw [Sp.order_nanL hn] at hg; exact absurd hg zb47
      | false => exact ⟨_, Sp.order_key hn zb47⟩
    obtain ⟨q, hq, hm⟩ : ∃ q, clampW a0 = q ∧ ∀ (ts : Array TypeId) (t : TypeId) (w : World), (Builtin.min_ ts t #[.float .f64 a0, .float .f64 4607182418800017408]).run Tryz.prog w = .ok (.float .f64 q) w := by
      refine ⟨_, ?_, fun ts t w => min_run ts t a0 4607182418800017408 o ho w⟩
      unfold clampW
      rw [if_pos hg'.out, ho]
      cases o <;> rfl
    rw [hq]
    clear hq ho
    go_enter Tryz.func17, Tryz.ntmps17
    go_wp2
    go_ret
    exact ⟨rfl, Drawn0.refl _⟩
  · have hg' : Hid (¬ (FloatKind.f64.format.order a0 0 == some .gt) = true) := Lib.hid hg
    have hgf : (FloatKind.f64.format.order a0 0 == some .gt) = false := by simpa using hg
    go_enter Tryz.func17, Tryz.ntmps17
    go_wp2
    go_ret
    refine ⟨?_, Drawn0.refl _⟩
    unfold clampW
    rw [if_neg hg'.out]
    rfl
def digS : ByteArray := ⟨#[48, 49, 50, 51, 52, 53, 54, 55, 56, 57]⟩
def nanW : Nat := 9221120237041090561
def fdiv (n : Nat) : Nat := (floatBits .quo .f64 (floatOfInt .f64 n) 4652007308841189376).getD 0
theorem fdiv_all : ∀ a : Fin 1001, floatBits .quo .f64 (floatOfInt .f64 (a.val : Int)) 4652007308841189376 = some (fdiv a.val) := by decide +kernel
theorem fdiv_run (n : Int) (h0 : 0 ≤ n) (h1 : n ≤ 1000) : floatBits .quo .f64 (floatOfInt .f64 n) 4652007308841189376 = some (fdiv n.toNat) := by
  have := fdiv_all ⟨n.toNat, by omega⟩
  simpa [Int.toNat_of_nonneg h0] using this
def weiN (a : ByteArray) : Int := (atoiF ((cutF a (⟨#[46]⟩ : ByteArray)).1 ++ ((cutF a (⟨#[46]⟩ : ByteArray)).2.1 ++ (⟨#[48, 48, 48]⟩ : ByteArray)).extract 0 3).data.toList).1
def weiBad (a : ByteArray) : Prop := ((cutF a (⟨#[46]⟩ : ByteArray)).1.toList ≠ [48] ∧ (cutF a (⟨#[46]⟩ : ByteArray)).1.toList ≠ [49]) ∨ 3 < (cutF a (⟨#[46]⟩ : ByteArray)).2.1.size ∨ Lib.trimS (cutF a (⟨#[46]⟩ : ByteArray)).2.1.data.toList digS.data.toList ≠ []
instance (a : ByteArray) : Decidable (weiBad a) := by unfold weiBad; infer_instance
def quality_Weight.f (a0 : ByteArray) : Option Nat := if a0.size < 4294967281 then (if weiBad a0 then some nanW else if weiN a0 > 1000 then some nanW else if 0 ≤ weiN a0 then some (fdiv (weiN a0).toNat) else none) else none
theorem cut_size (s sep : ByteArray) : (cutF s sep).1.size ≤ s.size ∧ (cutF s sep).2.1.size ≤ s.size := by
  have h1 : ∀ l : List UInt8, (⟨l.toArray⟩ : ByteArray).size = l.length := fun l => by rw [Lib.size_eq]
  unfold cutF Lib.cut
  simp only [h1, Lib.size_eq]
  split <;> simp <;> omega
set_option maxHeartbeats 1000000 in
set_option maxRecDepth 100000 in
theorem quality_Weight.calls (a0 : ByteArray) (r : Nat) (w : World) (hG : Glob w) (h : quality_Weight.f a0 = some r) :
    Calls Tryz.prog 16 #[.string a0] w fun e w' => e = .returned (.float .f64 r) ∧ Below w.heap.size w w' := by
  unfold quality_Weight.f at h
  split at h
  case isFalse => exact absurd h zb45
  rename_i hsz
  have hC : strings_Cut.f a0 (⟨#[46]⟩ : ByteArray) = some ((cutF a0 (⟨#[46]⟩ : ByteArray)).1, (cutF a0 (⟨#[46]⟩ : ByteArray)).2.1, (cutF a0 (⟨#[46]⟩ : ByteArray)).2.2) := by unfold strings_Cut.f; rw [if_pos hsz]
  have HC := Lib.hid (strings_Cut.calls a0 (⟨#[46]⟩ : ByteArray) _ _ _ w hG hC)
  have HN := Lib.hid (fun w => math_NaN.calls nanW w rfl)
  have hG' := Lib.hid hG
  obtain ⟨hw1, hw2⟩ := cut_size a0 (⟨#[46]⟩ : ByteArray)
  have hbad : Hid (weiBad a0 ↔ ((cutF a0 (⟨#[46]⟩ : ByteArray)).1.toList ≠ [48] ∧ (cutF a0 (⟨#[46]⟩ : ByteArray)).1.toList ≠ [49]) ∨ 3 < (cutF a0 (⟨#[46]⟩ : ByteArray)).2.1.size ∨ Lib.trimS (cutF a0 (⟨#[46]⟩ : ByteArray)).2.1.data.toList digS.data.toList ≠ []) := Lib.hid Iff.rfl
  have hwn : Hid (weiN a0 = (atoiF ((cutF a0 (⟨#[46]⟩ : ByteArray)).1 ++ ((cutF a0 (⟨#[46]⟩ : ByteArray)).2.1 ++ (⟨#[48, 48, 48]⟩ : ByteArray)).extract 0 3).data.toList).1) := Lib.hid rfl
  clear hC hG
  generalize (cutF a0 (⟨#[46]⟩ : ByteArray)).1 = W at *
  generalize (cutF a0 (⟨#[46]⟩ : ByteArray)).2.1 = p at *
  generalize (cutF a0 (⟨#[46]⟩ : ByteArray)).2.2 = ok at *
  have hr := Lib.hid h
  clear h
  by_cases hA : W.toList ≠ [48] ∧ W.toList ≠ [49]
  · have e1 : (W.toList == [48]) = false := by simpa using hA.1
    have e2 : (W.toList == [49]) = false := by simpa using hA.2
    have e3 : (W.toList != [48]) = true := by simp [bne, e1]
    have e4 : (W.toList != [49]) = true := by simp [bne, e2]
    have hr2 : Hid (nanW = r) := Lib.hid (by have := hr.out; rw [if_pos (hbad.out.2 (.inl hA))] at this; exact Option.some.inj this)
    clear hA
    go_enter Tryz.func16, Tryz.ntmps16
    go_wp2_with (first | (go_at_call 27; refine HC.out.mono ?_; rintro e w1 ⟨rfl, hb1⟩; have hb1 := Lib.hid hb1) | (go_at_call 28; refine (HN.out _).mono ?_; rintro e w2 ⟨rfl, hd2⟩; have hd2 := Lib.hid hd2))
    go_ret
    exact ⟨by rw [← hr2.out]; rfl, hb1.out.trans (hd2.out.below.mono hb1.out.size)⟩
  · have hA2 : W.toList = [48] ∨ W.toList = [49] := by
      by_cases h1 : W.toList = [48]
      · exact .inl h1
      · exact .inr (Classical.byContradiction fun h2 => hA ⟨h1, h2⟩)
    have hWs : W.size = 1 := by
      have h1 : W.size = W.toList.length := by rw [Lib.toList_data]; exact Lib.size_eq W
      rcases hA2 with h2 | h2 <;> rw [h1, h2] <;> rfl
    have hcond : Hid (∀ {α : Type} (x y : α), (if W.toList ≠ [48] ∧ W.toList ≠ [49] then x else y) = y) := Lib.hid (fun x y => if_neg hA)
    by_cases hB : 3 < p.size
    · have hr2 : Hid (nanW = r) := Lib.hid (by have := hr.out; rw [if_pos (hbad.out.2 (.inr (.inl hB)))] at this; exact Option.some.inj this)
      have hB' : (3 : Int) < (p.size : Int) := by omega
      rcases hA2 with h48 | h49
      · have e1 : (W.toList == [48]) = true := by rw [h48]; rfl
        have e3 : (W.toList != [48]) = false := by simp [bne, e1]
        clear h48 hA hcond
        go_enter Tryz.func16, Tryz.ntmps16
        go_wp2_with (first | (go_at_call 27; refine HC.out.mono ?_; rintro e w1 ⟨rfl, hb1⟩; have hb1 := Lib.hid hb1) | (go_at_call 28; refine (HN.out _).mono ?_; rintro e w2 ⟨rfl, hd2⟩; have hd2 := Lib.hid hd2))
        go_ret
        exact ⟨by rw [← hr2.out]; rfl, hb1.out.trans (hd2.out.below.mono hb1.out.size)⟩
      · have e0 : (W.toList == [48]) = false := by rw [h49]; rfl
        have e3 : (W.toList != [48]) = true := by simp [bne, e0]
        have e1 : (W.toList == [49]) = true := by rw [h49]; rfl
        have e4 : (W.toList != [49]) = false := by simp [bne, e1]
        clear h49 hA hcond
        go_enter Tryz.func16, Tryz.ntmps16
        go_wp2_with (first | (go_at_call 27; refine HC.out.mono ?_; rintro e w1 ⟨rfl, hb1⟩; have hb1 := Lib.hid hb1) | (go_at_call 28; refine (HN.out _).mono ?_; rintro e w2 ⟨rfl, hd2⟩; have hd2 := Lib.hid hd2))
        go_ret
        exact ⟨by rw [← hr2.out]; rfl, hb1.out.trans (hd2.out.below.mono hb1.out.size)⟩
    · obtain ⟨t, ht⟩ : ∃ t, t = (⟨(Lib.trimS p.data.toList digS.data.toList).toArray⟩ : ByteArray) := ⟨_, rfl⟩
      have HT := Lib.hid (fun w => strings_Trim.calls p digS t w (by rw [ht] <;> exact if_pos ⟨by omega, by decide, by decide⟩))
      unfold digS at HT
      have hte : Hid (t.toList = [] ↔ Lib.trimS p.data.toList digS.data.toList = []) := Lib.hid (by rw [ht, Lib.toList_data] <;> simp)
      clear ht
      have hB' : ¬ (3 : Int) < (p.size : Int) := by omega
      have hBd : decide ((3 : Int) < (p.size : Int)) = false := decide_eq_false hB'
      by_cases hT : t.toList = []
      · obtain ⟨n, hn⟩ : ∃ n, n = weiN a0 := ⟨_, rfl⟩
        have hnb : ¬ weiBad a0 := fun hb => by
          rcases hbad.out.1 hb with h1 | h1 | h1
          · exact hA h1
          · exact hB h1
          · exact h1 (hte.out.1 hT)
        have hr3 : Hid ((if n > 1000 then some nanW else if 0 ≤ n then some (fdiv n.toNat) else none) = some r) := Lib.hid (by have := hr.out; rw [if_neg hnb, ← hn] at this; exact this)
        obtain ⟨m, hm⟩ : ∃ m, m = W ++ (p ++ (⟨#[48, 48, 48]⟩ : ByteArray)).extract 0 3 := ⟨_, rfl⟩
        have hps : (p ++ (⟨#[48, 48, 48]⟩ : ByteArray)).size = p.size + 3 := by rw [ByteArray.size_append]; rfl
        have hes : ((p ++ (⟨#[48, 48, 48]⟩ : ByteArray)).extract 0 3).size = 3 := by rw [ByteArray.size_extract, hps]; omega
        have hms : m.size = 4 := by rw [hm, ByteArray.size_append, hes, hWs]
        have hat : strconv_Atoi.f m = some ((atoiF m.data.toList).1, (atoiF m.data.toList).2) := by unfold strconv_Atoi.f; rw [if_pos zb42]
        have hn2 : n = (atoiF m.data.toList).1 := by rw [hn, hwn.out, hm]
        rw [← hn2] at hat
        have HA := Lib.hid (fun w (hg : Glob w) => strconv_Atoi.calls m n _ w hg hat)
        have hmm := hm.symm
        have hT1 : (t.toList == []) = true := by rw [hT]; rfl
        clear hat hn2 hn hm hnb hte hbad hwn hr hT
        rcases hA2 with h48 | h49
        · have e1 : (W.toList == [48]) = true := by rw [h48]; rfl
          have e3 : (W.toList != [48]) = false := by simp [bne, e1]
          clear h48 hA hcond
          by_cases hbig : n > 1000
          · have hr2 : Hid (nanW = r) := Lib.hid (by have := hr3.out; rw [if_pos hbig] at this; exact Option.some.inj this)
            have hbig' : (1000 : Int) < n := hbig
            clear hr3
            go_enter Tryz.func16, Tryz.ntmps16
            go_wp2_with (first | (go_at_call 27; refine HC.out.mono ?_; rintro e w1 ⟨rfl, hb1⟩; have hb1 := Lib.hid hb1) | (go_at_call 24; refine (HT.out _).mono ?_; rintro e w2 ⟨rfl, hb2⟩; have hb2 := Lib.hid (below_step hb1.out hb2)) | (go_at_call 29; refine (HA.out _ (Glob.below hG'.out hb2.out)).mono ?_; rintro e w3 ⟨pv, hpv, rfl, hb3⟩; have hb3 := Lib.hid (below_step hb2.out hb3)) | (go_at_call 28; refine (HN.out _).mono ?_; rintro e w4 ⟨rfl, hd4⟩; have hd4 := Lib.hid hd4))
            go_ret
            exact ⟨by rw [← hr2.out]; rfl, below_step hb3.out hd4.out.below⟩
          · by_cases h0 : 0 ≤ n
            · have hr2 : Hid (fdiv n.toNat = r) := Lib.hid (by have := hr3.out; rw [if_neg hbig, if_pos h0] at this; exact Option.some.inj this)
              have hbig' : decide ((1000 : Int) < n) = false := decide_eq_false hbig
              have hq := fun (t : TypeId) (w : World) => run_float_arith (P := Tryz.prog) (w := w) .quo t .f64 (floatOfInt .f64 n) 4652007308841189376 _ (fdiv_run n h0 zb42)
              have hconv := fun (w : World) => run_convert_int_float (P := Tryz.prog) w 3 25 .i64 .f64 n (by rw [Tryz.underlying3]; rfl) Tryz.underlying25
              generalize floatOfInt .f64 n = fn at hq hconv
              rw [hr2.out] at hq
              clear hr3
              go_enter Tryz.func16, Tryz.ntmps16
              go_wp2_with (first | (go_at_call 27; refine HC.out.mono ?_; rintro e w1 ⟨rfl, hb1⟩; have hb1 := Lib.hid hb1) | (go_at_call 24; refine (HT.out _).mono ?_; rintro e w2 ⟨rfl, hb2⟩; have hb2 := Lib.hid (below_step hb1.out hb2)) | (go_at_call 29; refine (HA.out _ (Glob.below hG'.out hb2.out)).mono ?_; rintro e w3 ⟨pv, hpv, rfl, hb3⟩; have hb3 := Lib.hid (below_step hb2.out hb3)) | (go_at_call 28; refine (HN.out _).mono ?_; rintro e w4 ⟨rfl, hd4⟩; have hd4 := Lib.hid hd4))
              go_ret
              exact ⟨rfl, hb3.out⟩
            · exact absurd hr3.out (by rw [if_neg hbig, if_neg h0]; simp)
        · have e0 : (W.toList == [48]) = false := by rw [h49]; rfl
          have e3 : (W.toList != [48]) = true := by simp [bne, e0]
          have e1 : (W.toList == [49]) = true := by rw [h49]; rfl
          have e4 : (W.toList != [49]) = false := by simp [bne, e1]
          clear h49 hA hcond
          by_cases hbig : n > 1000
          · have hr2 : Hid (nanW = r) := Lib.hid (by have := hr3.out; rw [if_pos hbig] at this; exact Option.some.inj this)
            have hbig' : (1000 : Int) < n := hbig
            clear hr3
            go_enter Tryz.func16, Tryz.ntmps16
            go_wp2_with (first | (go_at_call 27; refine HC.out.mono ?_; rintro e w1 ⟨rfl, hb1⟩; have hb1 := Lib.hid hb1) | (go_at_call 24; refine (HT.out _).mono ?_; rintro e w2 ⟨rfl, hb2⟩; have hb2 := Lib.hid (below_step hb1.out hb2)) | (go_at_call 29; refine (HA.out _ (Glob.below hG'.out hb2.out)).mono ?_; rintro e w3 ⟨pv, hpv, rfl, hb3⟩; have hb3 := Lib.hid (below_step hb2.out hb3)) | (go_at_call 28; refine (HN.out _).mono ?_; rintro e w4 ⟨rfl, hd4⟩; have hd4 := Lib.hid hd4))
            go_ret
            exact ⟨by rw [← hr2.out]; rfl, below_step hb3.out hd4.out.below⟩
          · by_cases h0 : 0 ≤ n
            · have hr2 : Hid (fdiv n.toNat = r) := Lib.hid (by have := hr3.out; rw [if_neg hbig, if_pos h0] at this; exact Option.some.inj this)
              have hbig' : decide ((1000 : Int) < n) = false := decide_eq_false hbig
              have hq := fun (t : TypeId) (w : World) => run_float_arith (P := Tryz.prog) (w := w) .quo t .f64 (floatOfInt .f64 n) 4652007308841189376 _ (fdiv_run n h0 zb42)
              have hconv := fun (w : World) => run_convert_int_float (P := Tryz.prog) w 3 25 .i64 .f64 n (by rw [Tryz.underlying3]; rfl) Tryz.underlying25
              generalize floatOfInt .f64 n = fn at hq hconv
              rw [hr2.out] at hq
              clear hr3
              go_enter Tryz.func16, Tryz.ntmps16
              go_wp2_with (first | (go_at_call 27; refine HC.out.mono ?_; rintro e w1 ⟨rfl, hb1⟩; have hb1 := Lib.hid hb1) | (go_at_call 24; refine (HT.out _).mono ?_; rintro e w2 ⟨rfl, hb2⟩; have hb2 := Lib.hid (below_step hb1.out hb2)) | (go_at_call 29; refine (HA.out _ (Glob.below hG'.out hb2.out)).mono ?_; rintro e w3 ⟨pv, hpv, rfl, hb3⟩; have hb3 := Lib.hid (below_step hb2.out hb3)) | (go_at_call 28; refine (HN.out _).mono ?_; rintro e w4 ⟨rfl, hd4⟩; have hd4 := Lib.hid hd4))
              go_ret
              exact ⟨rfl, hb3.out⟩
            · exact absurd hr3.out (by rw [if_neg hbig, if_neg h0]; simp)
      · have hr2 : Hid (nanW = r) := Lib.hid (by have := hr.out; rw [if_pos (hbad.out.2 (.inr (.inr (fun h => hT (hte.out.2 h)))))] at this; exact Option.some.inj this)
        have hT1 : (t.toList == []) = false := by simpa using hT
        rcases hA2 with h48 | h49
        · have e1 : (W.toList == [48]) = true := by rw [h48]; rfl
          have e3 : (W.toList != [48]) = false := by simp [bne, e1]
          clear h48 hA hcond
          go_enter Tryz.func16, Tryz.ntmps16
          go_wp2_with (first | (go_at_call 27; refine HC.out.mono ?_; rintro e w1 ⟨rfl, hb1⟩; have hb1 := Lib.hid hb1) | (go_at_call 24; refine (HT.out _).mono ?_; rintro e w2 ⟨rfl, hb2⟩; have hb2 := Lib.hid hb2) | (go_at_call 28; refine (HN.out _).mono ?_; rintro e w3 ⟨rfl, hd3⟩; have hd3 := Lib.hid hd3))
          go_ret
          exact ⟨by rw [← hr2.out]; rfl, below_step (below_step hb1.out hb2.out) hd3.out.below⟩
        · have e0 : (W.toList == [48]) = false := by rw [h49]; rfl
          have e3 : (W.toList != [48]) = true := by simp [bne, e0]
          have e1 : (W.toList == [49]) = true := by rw [h49]; rfl
          have e4 : (W.toList != [49]) = false := by simp [bne, e1]
          clear h49 hA hcond
          go_enter Tryz.func16, Tryz.ntmps16
          go_wp2_with (first | (go_at_call 27; refine HC.out.mono ?_; rintro e w1 ⟨rfl, hb1⟩; have hb1 := Lib.hid hb1) | (go_at_call 24; refine (HT.out _).mono ?_; rintro e w2 ⟨rfl, hb2⟩; have hb2 := Lib.hid hb2) | (go_at_call 28; refine (HN.out _).mono ?_; rintro e w3 ⟨rfl, hd3⟩; have hd3 := Lib.hid hd3))
          go_ret
          exact ⟨by rw [← hr2.out]; rfl, below_step (below_step hb1.out hb2.out) hd3.out.below⟩
end Go.Proofs.YtghfbhobpodoeaaGreatDoor.O
/- Oran -/
namespace Go.Proofs.YtghfbhobpodoeaaGreatDoor.O
open Go.RowKit Go.Proofs.YtghfbhobpodoeaaGreatDoorW.PrintWords Go.Proofs.YtghfbhobpodoeaaGreatDoorW.PrintLast Go.Proofs.YtghfbhobpodoeaaGreatDoorW.PrintMore Go.Proofs.YtghfbhobpodoeaaGreatDoor.P Go.Proofs.YtghfbhobpodoeaaGreatDoor.B
set_option linter.unusedVariables false
set_option linter.unusedSimpArgs false
attribute [local go_sem] run_store_float
def cntP : List S50 → Int → Int
  | [], n => n
  | p :: l, n => cntP l (if p.f0.toList = [113] then n else wrap64 (n + 1))
def hund (t : ByteArray) (n : Int) : Int := if t.toList = [42] then n else wrap64 (n + 100)
def narrowF (a b : ByteArray) (l : List S50) : Int := hund b (hund a (cntP l 0))
def rngOne (k : Nat) (t : ByteArray) : Option (Option S66) := (media_Parse.f k t).bind fun p =>
  if p.2.2.2 = 0 then (media_Param.f k p.1 p.2.1 p.2.2.1 (⟨#[113]⟩ : ByteArray)).bind fun q =>
    (if q.2 = true then quality_Weight.f q.1 else some one64).bind fun x => some (some ⟨⟨p.1, p.2.1, p.2.2.1⟩, x, narrowF p.1 p.2.1 p.2.2.1⟩)
  else some none
def rngs (k : Nat) : List ByteArray → List S66 → Option (List S66)
  | [], out => some out
  | t :: r, out => (rngOne k t).bind fun o => match o with
    | none => rngs k r out
    | some x => rngs k r (out ++ [x])
def quality_ranges.f (k : Nat) (a0 : ByteArray) : Option (List S66) := (quality_Split.f a0).bind fun l => if l.length ≤ 1000000000000 then rngs k l [] else none
/-- What stands of one range while it is made: the type's record, the range's record. -/
structure RSt (W2 : World) (gm : Nat) (a b : ByteArray) (A : Option Addr) (n c : Nat) (wt : Nat) (nr : Int) (W : World) : Prop where
  m : W.heap[gm]? = some (.cells #[.string a, .string b, .slice A n c] 40 (0, 0))
  r : W.heap[gm + 1]? = some (.cells #[.string a, .string b, .slice A n c, .float .f64 wt, .int .i64 nr] 66 (0, 0))
  bel : Below W2.heap.size W2 W
  ge : W2.heap.size ≤ gm
theorem RSt.step {W2 W W1 : World} {gm n c wt : Nat} {a b : ByteArray} {A : Option Addr} {nr : Int} (h : RSt W2 gm a b A n c wt nr W) (hb : Below W.heap.size W W1) : RSt W2 gm a b A n c wt nr W1 :=
  ⟨blk_below h.m hb, blk_below h.r hb, below_step h.bel hb, h.ge⟩
theorem meas_ (n N : Nat) (h : n < N) (hw : wrap64 ((n : Int) + 1) = ((n + 1 : Nat) : Int)) : N - (intOf (.int .i64 (wrap64 ((n : Int) + 1)))).toNat < N - (intOf (.int .i64 n)).toNat := by rw [hw]; simp [intOf]; omega
theorem measN_ (n N : Nat) (h : n < N) : N - (intOf (.int .i64 ((n : Int) + 1))).toNat < N - (intOf (.int .i64 n)).toNat := by simp [intOf]; omega
theorem RSt.setw {W2 W : World} {gm n c wt : Nat} {a b : ByteArray} {A : Option Addr} {nr : Int} (h : RSt W2 gm a b A n c wt nr W) (x : Nat) : RSt W2 gm a b A n c x nr (W.setCell ⟨gm + 1, 3, none⟩ (.float .f64 x)) :=
  ⟨(Below.heap_setCell W ⟨gm + 1, 3, none⟩ _ gm zb45).trans h.m, blk_put h.r 3 (.float .f64 x) rfl, h.bel.setCell (p := ⟨gm + 1, 3, none⟩) (by show W2.heap.size ≤ gm + 1; have := h.ge; omega) _, h.ge⟩
theorem RSt.setn {W2 W : World} {gm n c wt : Nat} {a b : ByteArray} {A : Option Addr} {nr : Int} (h : RSt W2 gm a b A n c wt nr W) (x : Int) : RSt W2 gm a b A n c wt x (W.setCell ⟨gm + 1, 4, none⟩ (.int .i64 x)) :=
  ⟨(Below.heap_setCell W ⟨gm + 1, 4, none⟩ _ gm zb45).trans h.m, blk_put h.r 4 (.int .i64 x) rfl, h.bel.setCell (p := ⟨gm + 1, 4, none⟩) (by show W2.heap.size ≤ gm + 1; have := h.ge; omega) _, h.ge⟩
theorem RSt.al {W2 W : World} {gm n c wt : Nat} {a b : ByteArray} {A : Option Addr} {nr : Int} (h : RSt W2 gm a b A n c wt nr W) (o : Obj) : RSt W2 gm a b A n c wt nr (W.alloc o) := h.step (below_alloc (Below.refl _ _) o)
theorem RSt.c3 {W2 W : World} {gm n c wt : Nat} {a b : ByteArray} {A : Option Addr} {nr : Int} (h : RSt W2 gm a b A n c wt nr W) : W.cell? ⟨gm + 1, 3, none⟩ = some (.float .f64 wt) := (blk_cell h.r 3).trans rfl
theorem RSt.c4 {W2 W : World} {gm n c wt : Nat} {a b : ByteArray} {A : Option Addr} {nr : Int} (h : RSt W2 gm a b A n c wt nr W) : W.cell? ⟨gm + 1, 4, none⟩ = some (.int .i64 nr) := (blk_cell h.r 4).trans rfl
theorem RSt.fz {W2 W : World} {gm n c wt : Nat} {a b : ByteArray} {A : Option Addr} {nr : Int} (h : RSt W2 gm a b A n c wt nr W) (i : Nat) : W.frozen? ⟨gm + 1, i, none⟩ = false := blk_frozen h.r i
theorem rst_new (w : World) (a b : ByteArray) (A : Option Addr) (n c wt : Nat) (nr : Int) : RSt w w.heap.size a b A n c wt nr ((w.alloc (.cells #[.string a, .string b, .slice A n c] 40)).alloc (.cells #[.string a, .string b, .slice A n c, .float .f64 wt, .int .i64 nr] 66)) :=
  ⟨blk_alloc (heap_alloc_new w _) _, by have := heap_alloc_new (w.alloc (.cells #[.string a, .string b, .slice A n c] 40)) (.cells #[.string a, .string b, .slice A n c, .float .f64 wt, .int .i64 nr] 66); simpa using this, below_alloc (below_alloc (Below.refl _ _) _) _, Nat.le_refl _⟩
set_option maxHeartbeats 4000000 in
set_option maxRecDepth 100000 in
theorem quality_ranges.calls (k : Nat) (a0 : ByteArray) (r : List S66) (w : World) (hG : Glob w) (h : quality_ranges.f k a0 = some r) :
    Calls Tryz.prog 18 #[.string a0] w fun e w' => ∃ v0_ : Value, e = .returned v0_ ∧ Kd.S k66 66 w' w.heap.size (fun _ => True) v0_ r ∧ Below w.heap.size w w' := by
  unfold quality_ranges.f at h
  obtain ⟨L, hL, h⟩ := Option.bind_eq_some_iff.1 h
  split at h
  case isFalse => exact absurd h zb45
  rename_i hlen
  have HS := Lib.hid (fun W => quality_Split.calls a0 L W hL)
  have hres := Lib.hid h
  have hG' := Lib.hid hG
  clear h hL hG
  have hS0 : Hid (Kd.S k66 66 (w.alloc (.cells #[] 66)) w.heap.size (fun _ => True) (.slice (some ⟨w.heap.size, 0, none⟩) 0 0) []) := Lib.hid ⟨fun _ => 0, fun _ _ => trivial, [], World.ownsRow_lit (base := w.heap.size) (e := 66) (size := 5) w #[] 0 (Nat.le_refl _) zb47 zb45, ⟨by simp, by simp⟩⟩
  go_enter Tryz.func18, Tryz.ntmps18
  go_wp2_with (go_at_call 13; refine (HS.out _).mono ?_; rintro e w1 ⟨vL, rfl, hvL, hb1⟩; obtain ⟨AL, cL, rfl, hcL, hrL⟩ := Kd.R_reads hvL; have hRL := Lib.hid hvL; have hb1 := Lib.hid hb1; clear hvL hrL)
  go_loopw [3, 19] (fun vo i wr => ∃ (j : Nat) (out : List S66), i = .int .i64 j ∧ Hid (j ≤ L.length ∧ out.length ≤ j ∧ rngs k (L.drop j) out = some r) ∧ Hid (Kd.R Kd.string 9 wr w.heap.size (fun _ => True) (.slice AL L.length cL) L) ∧ Hid (Kd.S k66 66 wr w.heap.size (fun _ => True) vo out) ∧ Hid (Below w.heap.size w wr)) (fun _ i _ => L.length - (intOf i).toNat)
  case atStart =>
    exact ⟨0, [], rfl, Lib.hid ⟨Nat.zero_le _, Nat.le_refl _, hres.out⟩, Lib.hid (Kd.R_lower hRL.out zb45), Lib.hid (Kd.S_below hS0.out hb1.out), Lib.hid (below_step (below_alloc (Below.refl _ _) _) hb1.out)⟩
  case round =>
    obtain ⟨j, out, rfl, hq, hRL2, hS, hB⟩ := hrel
    obtain ⟨h1, h2, h3⟩ := hq.out
    clear hq hRL hS0 hb1
    obtain ⟨B0, hB0⟩ : ∃ B0, wr.heap.size = B0 := ⟨_, rfl⟩
    have hB0 := Lib.hid hB0
    by_cases hlt : j < L.length
    · have hjl : (j : Int) < (L.length : Int) := by omega
      obtain ⟨t, ht⟩ : ∃ t, t = rdOf ByteArray.empty L j := ⟨_, rfl⟩
      have hd : L.drop j = t :: L.drop (j + 1) := by
        rw [List.drop_eq_getElem_cons hlt, ht]
        simp [rdOf, List.getD_eq_getElem?_getD, hlt]
      rw [hd] at h3
      obtain ⟨o, ho, h4⟩ := Option.bind_eq_some_iff.1 h3
      obtain ⟨⟨r1, r2, r3, r4⟩, hp, h5⟩ := Option.bind_eq_some_iff.1 ho
      have HP := Lib.hid (fun W => media_Parse.calls k t r1 r2 r3 r4 W hp)
      have h4 := Lib.hid h4
      have h5 := Lib.hid h5
      have hw1 : wrap64 ((j : Int) + 1) = ((j + 1 : Nat) : Int) := by unfold wrap64; omega
      obtain ⟨_, _, hC⟩ := Kd.R_reads' hRL2.out
      obtain ⟨ad, e0, hcell⟩ := Kd.at_string hC j zb42 hjl
      rw [← ht] at hcell
      have hcell : wr.cell? (ad.add j) = some (.string t) := hcell
      subst e0
      clear h3 hd ho hp hC ht
      by_cases h0 : r4 = 0
      · subst h0
        obtain ⟨x, q1, q2, hpar, hx, h6⟩ : ∃ x q1 q2, media_Param.f k r1 r2 r3 (⟨#[113]⟩ : ByteArray) = some (q1, q2) ∧ (if q2 = true then quality_Weight.f q1 else some one64) = some x ∧ rngs k (L.drop (j + 1)) (out ++ [⟨⟨r1, r2, r3⟩, x, narrowF r1 r2 r3⟩]) = some r := by
          have h7 := h5.out
          simp only [if_true] at h7
          obtain ⟨⟨q1, q2⟩, hpar, h8⟩ := Option.bind_eq_some_iff.1 h7
          obtain ⟨x, hx, h9⟩ := Option.bind_eq_some_iff.1 h8
          obtain rfl := Option.some.inj h9
          exact ⟨x, q1, q2, hpar, hx, h4.out⟩
        have HM := Lib.hid (fun (W : World) (A : Option Addr) (c : Nat) (h1 : Kd.C k50 W A r3.length r3) (h2 : r3.length ≤ c) => media_Param.calls k r1 r2 A c r3 (⟨#[113]⟩ : ByteArray) q1 q2 W h1 h2 hpar)
        have hx := Lib.hid hx
        have h6 := Lib.hid h6
        clear h4 h5 hpar
        go_upto_if 37 with (first | (go_at_call 30; refine (HP.out _).mono ?_; rintro e w2 ⟨v2, rfl, hv2, hb2⟩; obtain ⟨A2, c2, rfl⟩ := Kd.R_slice hv2; have hv2 := Lib.hid hv2; have hb2 := Lib.hid hb2) | (go_at_call 31; refine (HM.out _ A2 c2 (Kd.C_below (Kd.R_reads' hv2.out).2.2 (below_alloc (below_alloc (Below.refl _ _) _) _)) (Kd.R_reads' hv2.out).2.1).mono ?_; rintro e w3 ⟨rfl, hb3⟩; have hst : Hid (RSt w2 w2.heap.size r1 r2 A2 r3.length c2 one64 0 w3) := Lib.hid (RSt.step (rst_new w2 r1 r2 A2 r3.length c2 one64 0) hb3); clear hb3))
        go_cut [] (fun wc => Hid (RSt w2 w2.heap.size r1 r2 A2 r3.length c2 x 0 wc))
        case first =>
          have hc3 := hst.out.c3
          have hf3 := hst.out.fz 3
          have hB3 : Hid (Below w.heap.size w w3) := Lib.hid (below_step (below_step hB.out hb2.out) hst.out.bel)
          cases q2 with
          | true =>
            have HW := Lib.hid (fun W (hg : Glob W) => quality_Weight.calls q1 x W hg hx.out)
            go_wp2_with (go_at_call 16; refine (HW.out _ (Glob.below hG'.out hB3.out)).mono ?_; rintro e w4 ⟨rfl, hb4⟩; have hst4 := Lib.hid (RSt.step hst.out hb4); have hc4 := hst4.out.c3; have hf4 := hst4.out.fz 3; clear hb4)
            go_meet
            case rel => exact Lib.hid (RSt.setw hst4.out x)
          | false =>
            obtain rfl : one64 = x := by simpa using hx.out
            go_wp2
            go_meet
            case rel => exact hst
        case rest =>
          clear hst HM HP hx
          have y2 := (blk_cell hcut.out.m 2).trans (show _ = some (.slice A2 r3.length c2) from rfl)
          go_wp2
          clear y2
          go_loopw [44] (fun i wr2 => ∃ (n : Nat) (nr : Int), i = .int .i64 n ∧ Hid (n ≤ r3.length ∧ cntP (r3.drop n) nr = cntP r3 0) ∧ Hid (RSt w2 w2.heap.size r1 r2 A2 r3.length c2 x nr wr2)) (fun i _ => r3.length - (intOf i).toNat)
          case atStart => exact ⟨0, 0, rfl, Lib.hid ⟨Nat.zero_le _, rfl⟩, hcut⟩
          case round =>
            obtain ⟨n, nr, rfl, hn, hst⟩ := hrel
            clear hcut
            obtain ⟨n1, n2⟩ := hn.out
            clear hn
            have n2 := Lib.hid n2
            by_cases hlt2 : n < r3.length
            · have hnl : (n : Int) < (r3.length : Int) := by omega
              have hC := Kd.C_below (Kd.R_reads' hv2.out).2.2 hst.out.bel
              obtain ⟨ad2, e2, hx0, hx1⟩ := at_T50 hC n zb42 hnl
              obtain ⟨p, hp⟩ : ∃ p, p = rd_T50 r3 n := ⟨_, rfl⟩
              rw [← hp] at hx0 hx1
              have hd : r3.drop n = p :: r3.drop (n + 1) := by
                rw [List.drop_eq_getElem_cons hlt2, hp]
                simp [rd_T50, List.getD_eq_getElem?_getD, hlt2]
              have n3 : Hid (cntP (r3.drop (n + 1)) (if p.f0.toList = [113] then nr else wrap64 (nr + 1)) = cntP r3 0) := Lib.hid (by have := n2.out; rw [hd] at this; exact this)
              have hw2 : wrap64 ((n : Int) + 1) = ((n + 1 : Nat) : Int) := by
                have := hC.2.1
                unfold maxLen at this
                unfold wrap64
                omega
              have hca : ∀ o, (wr.alloc o).cell? ⟨w2.heap.size + 1, 4, none⟩ = some (.int .i64 nr) := fun o => (hst.out.al o).c4
              have hfa : ∀ o, (wr.alloc o).frozen? ⟨w2.heap.size + 1, 4, none⟩ = false := fun o => (hst.out.al o).fz 4
              have hx0 : wr.cell? (ad2.add (n * 2)) = some (.string p.f0) := hx0
              have hx1 : wr.cell? ⟨(ad2.add (n * 2)).block, (ad2.add (n * 2)).off + 1, none⟩ = some (.string p.f1) := hx1
              subst e2
              clear hp hd n2 hC
              by_cases h113 : p.f0.toList = [113]
              · have n4 : Hid (cntP (r3.drop (n + 1)) nr = cntP r3 0) := Lib.hid (by have := n3.out; rwa [if_pos h113] at this)
                have b1 : (p.f0.toList == [113]) = true := by rw [h113]; rfl
                have b2 : (p.f0.toList != [113]) = false := by simp [bne, b1]
                clear h113 n3
                go_wp2
                go_roundw
                case rel => exact ⟨n + 1, nr, by go_num, Lib.hid ⟨hlt2, n4.out⟩, Lib.hid (hst.out.al _)⟩
                case measure => exact meas_ n _ hlt2 hw2
              · have n4 : Hid (cntP (r3.drop (n + 1)) (wrap64 (nr + 1)) = cntP r3 0) := Lib.hid (by have := n3.out; rwa [if_neg h113] at this)
                have b1 : (p.f0.toList == [113]) = false := by simpa using h113
                have b2 : (p.f0.toList != [113]) = true := by simp [bne, b1]
                clear h113 n3
                go_wp2
                go_roundw
                case rel => exact ⟨n + 1, wrap64 (nr + 1), by go_num, Lib.hid ⟨hlt2, n4.out⟩, Lib.hid ((hst.out.al _).setn _)⟩
                case measure => exact meas_ n _ hlt2 hw2
            · obtain rfl : n = r3.length := by omega
              have n3 : nr = cntP r3 0 := by have := n2.out; rwa [List.drop_of_length_le (Nat.le_refl _)] at this
              subst n3
              clear n2
              have y0 := (blk_cell hst.out.m 0).trans (show _ = some (.string r1) from rfl)
              have y1 := (blk_cell hst.out.m 1).trans (show _ = some (.string r2) from rfl)
              go_upto_block 4 with fail
              clear y0 y1
              go_cut [] (fun wc2 => Hid (RSt w2 w2.heap.size r1 r2 A2 r3.length c2 x (narrowF r1 r2 r3) wc2))
              case first =>
                have hN : Hid (narrowF r1 r2 r3 = hund r2 (hund r1 (cntP r3 0))) := Lib.hid rfl
                generalize cntP r3 0 = nr at *
                generalize narrowF r1 r2 r3 = N at *
                have hca : ∀ o, (wr.alloc o).cell? ⟨w2.heap.size + 1, 4, none⟩ = some (.int .i64 nr) := fun o => (hst.out.al o).c4
                have hfa : ∀ o, (wr.alloc o).frozen? ⟨w2.heap.size + 1, 4, none⟩ = false := fun o => (hst.out.al o).fz 4
                cases c1 : (r1.toList == [42]) <;> cases c2 : (r2.toList == [42])
                all_goals
                  have d1 : (r1.toList != [42]) = !(r1.toList == [42]) := rfl
                  rw [c1] at d1
                  have d2 : (r2.toList != [42]) = !(r2.toList == [42]) := rfl
                  rw [c2] at d2
                · have hN2 : Hid (N = wrap64 (wrap64 (nr + 100) + 100)) := Lib.hid (by rw [hN.out]; unfold hund; rw [if_neg (by simpa using c2), if_neg (by simpa using c1)])
                  clear hN
                  go_wp2
                  refine wp_loop_rounds 3 ?_
                  rw [rounds_succ]
                  go_wp2
                  rw [rounds_succ]
                  go_wp2
                  rw [rounds_succ]
                  go_wp2
                  go_meet
                  case rel => exact Lib.hid (by rw [hN2.out]; exact ((hst.out.al _).setn _).setn _)
                · have hN2 : Hid (N = wrap64 (nr + 100)) := Lib.hid (by rw [hN.out]; unfold hund; rw [if_pos (by simpa using c2), if_neg (by simpa using c1)])
                  clear hN
                  go_wp2
                  refine wp_loop_rounds 3 ?_
                  rw [rounds_succ]
                  go_wp2
                  rw [rounds_succ]
                  go_wp2
                  rw [rounds_succ]
                  go_wp2
                  go_meet
                  case rel => exact Lib.hid (by rw [hN2.out]; exact (hst.out.al _).setn _)
                · have hN2 : Hid (N = wrap64 (nr + 100)) := Lib.hid (by rw [hN.out]; unfold hund; rw [if_neg (by simpa using c2), if_pos (by simpa using c1)])
                  clear hN
                  go_wp2
                  refine wp_loop_rounds 3 ?_
                  rw [rounds_succ]
                  go_wp2
                  rw [rounds_succ]
                  go_wp2
                  rw [rounds_succ]
                  go_wp2
                  go_meet
                  case rel => exact Lib.hid (by rw [hN2.out]; exact (hst.out.al _).setn _)
                · have hN2 : Hid (N = nr) := Lib.hid (by rw [hN.out]; unfold hund; rw [if_pos (by simpa using c2), if_pos (by simpa using c1)])
                  clear hN
                  go_wp2
                  refine wp_loop_rounds 3 ?_
                  rw [rounds_succ]
                  go_wp2
                  rw [rounds_succ]
                  go_wp2
                  rw [rounds_succ]
                  go_wp2
                  go_meet
                  case rel => exact Lib.hid (by rw [hN2.out]; exact hst.out.al _)
              case rest =>
                clear hst
                have z0 := (blk_cell hcut.out.r 0).trans (show _ = some (.string r1) from rfl)
                have z1 := (blk_cell hcut.out.r 1).trans (show _ = some (.string r2) from rfl)
                have z2 := (blk_cell hcut.out.r 2).trans (show _ = some (.slice A2 r3.length c2) from rfl)
                have z3 := hcut.out.c3
                have z4 := hcut.out.c4
                generalize hNg : narrowF r1 r2 r3 = N at *
                have hNg := Lib.hid hNg
                have hgv : Hid (Kd.R k50 50 wc w.heap.size (fun q => B0 ≤ q) (.slice A2 r3.length c2) r3) := Lib.hid (Kd.R_lower (Kd.R_mono (Kd.R_bound (Kd.R_below hv2.out hcut.out.bel)) (fun q hq => by have h1 := hq.2.1; have h2 := hB0.out; omega)) hB.out.size)
                have hSO : Hid (Kd.S k66 66 wc w.heap.size (fun q => True ∧ ¬ B0 ≤ q) u3 out) := Lib.hid (Kd.S_below (Kd.S_below (Kd.S_mono (Kd.S_bound hS.out) (fun q hq => ⟨trivial, by have h1 := hq.2.2.1; have h2 := hB0.out; omega⟩)) hb2.out) hcut.out.bel)
                have hRO : Hid (Kd.R Kd.string 9 wc w.heap.size (fun _ => True) (.slice (some ad) L.length cL) L) := Lib.hid (Kd.R_below (Kd.R_below hRL2.out hb2.out) hcut.out.bel)
                have hBc : Hid (Below w.heap.size w wc) := Lib.hid (below_step (below_step hB.out hb2.out) hcut.out.bel)
                have hne3 : Hid (∀ q, B0 ≤ q → some q ≠ u3.ownBlock) := Lib.hid (fun q hq e => by have h1 := Kd.S_lt hS.out q e.symm; have h2 := hB0.out; omega)
                have hlen2 := Lib.hid (show (out.length + 1) * 72 ≤ 140737488355328 by omega)
                go_wp2_with (at_builtin; refine Kd.S_append k66 (w0 := w) w.heap.size rfl (.tmp 73) (.tmp 75) 43 66 (.agg #[.string ⟨#[]⟩, .string ⟨#[]⟩, .slice none 0 0, .float .f64 0, .int .i64 0]) 72 rfl Tryz.underlying43 zb9 rfl zb47 zb42 u3 out ⟨⟨r1, r2, r3⟩, x, N⟩ [.string r1, .string r2, .slice A2 r3.length c2, .float .f64 x, .int .i64 N] (fun _ => True) (fun q => B0 ≤ q) rfl rfl (k66_mkM wc w.heap.size _ ⟨⟨r1, r2, r3⟩, x, N⟩ hgv.out) (fun q hq => ⟨trivial, hne3.out q hq⟩) (fun _ _ => trivial) hSO.out hBc.out hBc.out.size hlen2.out ?_; intro v1 w5 hS5 hB5 hg5 hor5; have hS5 := Lib.hid hS5; have hB5 := Lib.hid hB5; have hg5 := Lib.hid hg5; clear hor5)
                go_roundw
                case rel => exact ⟨j + 1, out ++ [⟨⟨r1, r2, r3⟩, x, N⟩], by go_num, Lib.hid ⟨hlt, by rw [List.length_append]; exact Nat.add_le_add_right h2 1, h6.out⟩, Lib.hid (Kd.R_over' hRO.out (Kd.S_typed hSO.out) zb47 hg5.out), hS5, hB5⟩
                case measure => exact measN_ j _ hlt
      · have hne : (r4 == 0) = false := by simpa using h0
        have hne2 : (r4 != 0) = true := by simpa using h0
        have h6 : Hid (rngs k (L.drop (j + 1)) out = some r) := Lib.hid (by
          have := h5.out
          simp only [if_neg h0] at this
          obtain rfl := Option.some.inj this
          exact h4.out)
        go_wp2_with (go_at_call 30; refine (HP.out _).mono ?_; rintro e w2 ⟨v2, rfl, hv2, hb2⟩; obtain ⟨A2, c2, rfl⟩ := Kd.R_slice hv2; have hb2 := Lib.hid hb2; clear hv2)
        go_roundw
        case rel => exact ⟨j + 1, out, by go_num, Lib.hid ⟨by omega, by omega, h6.out⟩, Lib.hid (Kd.R_below hRL2.out (below_alloc hb2.out _)), Lib.hid (Kd.S_below hS.out (below_alloc hb2.out _)), Lib.hid (below_step hB.out (below_alloc hb2.out _))⟩
        case measure => simp [intOf]; omega
    · obtain rfl : j = L.length := by omega
      have h6 : Hid (out = r) := Lib.hid (by rw [List.drop_of_length_le (Nat.le_refl _)] at h3; exact Option.some.inj h3)
      clear h3
      go_wp2
      go_ret
      refine ⟨_, rfl, ?_, hB.out⟩
      rw [← h6.out]
      exact hS.out
end Go.Proofs.YtghfbhobpodoeaaGreatDoor.O
/- Ofit -/
namespace Go.Proofs.YtghfbhobpodoeaaGreatDoor.O
open Go.Proofs.YtghfbhobpodoeaaGreatDoor.P
open Go.Proofs.YtghfbhobpodoeaaGreatDoor.B
open Go.RowKit Go.Proofs.YtghfbhobpodoeaaGreatDoorW.PrintWords Go.Proofs.YtghfbhobpodoeaaGreatDoorW.PrintLast Go.Proofs.YtghfbhobpodoeaaGreatDoorW.PrintMore
attribute [local go_sem] run_store_float str_leq str_gtr str_geq max2_int min2_int max_two min_two max_three min_three max_four min_four
set_option linter.unusedVariables false
set_option linter.unusedSimpArgs false
def media_FitsP.l0 : Nat → List (S50) → Int → Int → ByteArray → ByteArray → List (S50) → Option (Bool)
  | 0, _, _, _, _, _, _ => none
  | k + 1, x39, x40, x41, x161000, x161001, x161002 => if x41 < x40 then (if 0 ≤ x41 then (if x41 < (x39.length : Int) then ((media_Param.f k x161000 x161001 x161002 ((rd_T50 x39 x41).f0)).bind fun bt163 => (if ((rd_T50 x39 x41).f0).toList = ([113] : List UInt8) then (media_FitsP.l0 k x39 x40 (wrap64 (x41 + 1)) x161000 x161001 x161002) else (if bt163.2 = true then ((media_Small.f bt163.1).bind fun t165 => ((media_Small.f ((rd_T50 x39 x41).f1)).bind fun t166 => (if t165.toList = t166.toList then (media_FitsP.l0 k x39 x40 (wrap64 (x41 + 1)) x161000 x161001 x161002) else (some false)))) else (some false)))) else (none)) else (none)) else (some true)
def media_FitsP.f (k : Nat) (a0_0 : ByteArray) (a0_1 : ByteArray) (l0_2 : List (S50)) (a1_0 : ByteArray) (a1_1 : ByteArray) (l1_2 : List (S50)) : Option (Bool) := media_FitsP.l0 k l0_2 (l0_2.length : Int) 0 a1_0 a1_1 l1_2
def media_FitsP.T11 : Bool × List (List Nat × List Nat) := (true, [([], []), ([0], [0]), ([1], [1]), ([2], [2]), ([3], [3]), ([4, 3], [3, 4]), ([5, 3, 3], [3, 5]), ([6], [6]), ([7, 6, 6], [6, 7]), ([6], [6]), ([9, 6], [6, 9]), ([10, 8, 6], [6, 10]), ([8, 11, 6], [6, 8, 11]), ([6, 12, 3], [3, 6, 12]), ([3, 13], [3, 13])])
def media_FitsP.B11 : List Nat := [0, 1, 3, 7, 15, 31, 63, 127, 255, 127, 639, 2047, 4095, 8191, 16383]
theorem media_FitsP.tab11 : rtab .any (opsOf Tryz.f32 11) = media_FitsP.T11 := by kernel_rfl
theorem media_FitsP.bits11 : waitsOk media_FitsP.T11.2 media_FitsP.B11 = true := by kernel_rfl
def fitB (x y : ByteArray) : Bool := x.toList == [42] || x.toList == y.toList
def media_Fits.f (k : Nat) (a0_0 a0_1 : ByteArray) (l0_2 : List (S50)) (a1_0 a1_1 : ByteArray) (l1_2 : List (S50)) : Option Bool := if fitB a0_0 a1_0 = true then (if fitB a0_1 a1_1 = true then media_FitsP.f k a0_0 a0_1 l0_2 a1_0 a1_1 l1_2 else some false) else some false
set_option maxHeartbeats 8000000 in
set_option maxRecDepth 100000 in
theorem media_Fits.calls (k : Nat) (a0_0 : ByteArray) (a0_1 : ByteArray) (A0_2 : Option Addr) (c0_2 : Nat) (l0_2 : List (S50)) (a1_0 : ByteArray) (a1_1 : ByteArray) (A1_2 : Option Addr) (c1_2 : Nat) (l1_2 : List (S50)) (r : Bool) (w : World) (hr0_2 : Kd.C k50 w A0_2 l0_2.length l0_2) (hc0_2 : l0_2.length ≤ c0_2) (hr1_2 : Kd.C k50 w A1_2 l1_2.length l1_2) (hc1_2 : l1_2.length ≤ c1_2) (h : media_Fits.f k a0_0 a0_1 l0_2 a1_0 a1_1 l1_2 = some r) :
    Calls Tryz.prog 32 #[.agg #[.string a0_0, .string a0_1, .slice A0_2 l0_2.length c0_2], .agg #[.string a1_0, .string a1_1, .slice A1_2 l1_2.length c1_2]] w fun e w' => e = .returned (.bool r) ∧ Below w.heap.size w w' := by
  have hu40 := Tryz.underlying40
  have hu50 := Tryz.underlying50
  have HR0_2 := Aside0.mk hr0_2
  have HC0_2 := Aside0.mk hc0_2
  clear hr0_2 hc0_2
  have HR1_2 := Aside0.mk hr1_2
  have HC1_2 := Aside0.mk hc1_2
  clear hr1_2 hc1_2
  have HB := Aside0.mk (Below.refl w.heap.size w)
  have HF := Aside0.mk h
  clear h
  go_enter Tryz.func32, Tryz.ntmps32
  go_upto_region 1 with (first | ((with_reducible refine gate_dst (N := 2) rfl ?_); refine box_event ?hg (N := 2) ?hd (cs := #[.string a0_0, .string a0_1, .slice A0_2 l0_2.length c0_2]) (t := 40) ?hr ?_; (case hd => rfl); (case hg => rfl); (case hr => first | (go_simp; done) | (go_simp; rfl)); intro gb159 hg w3 hbox hb; have n0_ := Aside0.mk (below_step zb0 hb); have n1_ := Aside0.mk (hbox); have n2_ := Aside0.mk ((by rw [hg]; exact (below_size zb0) : w.heap.size ≤ gb159)); have n3_ := Aside0.mk ((by rw [hg]; exact (below_size zb0) : w.heap.size ≤ gb159)); clear HB; have HB := n0_; have BK159 := n1_; have GW159 := n2_; have GE159 := n3_; clear n0_ n1_ n2_ n3_; clear hb hbox hg) | ((with_reducible refine gate_dst (N := 3) rfl ?_); refine box_event ?hg (N := 3) ?hd (cs := #[.string a1_0, .string a1_1, .slice A1_2 l1_2.length c1_2]) (t := 40) ?hr ?_; (case hd => rfl); (case hg => rfl); (case hr => first | (go_simp; done) | (go_simp; rfl)); intro gb160 hg w4 hbox hb; have n0_ := Aside0.mk (blk_below (g := gb159) (o := .cells #[.string a0_0, .string a0_1, .slice A0_2 l0_2.length c0_2] 40 (0, 0)) zb10 hb); have n1_ := Aside0.mk (below_step zb33 hb); have n2_ := Aside0.mk (hbox); have n3_ := Aside0.mk ((by rw [hg]; exact (below_size zb33) : w.heap.size ≤ gb160)); have n4_ := Aside0.mk ((by rw [hg]; exact (below_size zb33) : w.heap.size ≤ gb160)); have n5_ := Aside0.mk ((by rw [hg]; exact Nat.ne_of_lt (blk_lt (g := gb159) (o := .cells #[.string a0_0, .string a0_1, .slice A0_2 l0_2.length c0_2] 40 (0, 0)) zb10) : gb159 ≠ gb160)); have n6_ := Aside0.mk ((by rw [hg]; exact Nat.ne_of_gt (blk_lt (g := gb159) (o := .cells #[.string a0_0, .string a0_1, .slice A0_2 l0_2.length c0_2] 40 (0, 0)) zb10) : gb160 ≠ gb159)); clear BK159; clear HB; have BK159 := n0_; have HB := n1_; have BK160 := n2_; have GW160 := n3_; have GE160 := n4_; have NB159_160 := n5_; have NB160_159 := n6_; clear n0_ n1_ n2_ n3_ n4_ n5_ n6_; clear hb hbox hg; have hnb5 := NB159_160.out; have hnc5 := NB160_159.out; have hcz6_0 : w4.cell? ⟨gb159, 0, none⟩ = some (.string a0_0) := (blk_cell BK159.out 0).trans rfl; have hcz6_1 : w4.cell? ⟨gb159, 1, none⟩ = some (.string a0_1) := (blk_cell BK159.out 1).trans rfl; have hcz6_2 : w4.cell? ⟨gb159, 2, none⟩ = some (.slice A0_2 l0_2.length c0_2) := (blk_cell BK159.out 2).trans rfl; have hfz6_0 := blk_frozen BK159.out 0; have hfz6_1 := blk_frozen BK159.out 1; have hfz6_2 := blk_frozen BK159.out 2))
  have x0 := (blk_cell BK159.out 0).trans (show _ = some (.string a0_0) from rfl)
  have x1 := (blk_cell BK159.out 1).trans (show _ = some (.string a0_1) from rfl)
  have x2 := (blk_cell BK160.out 0).trans (show _ = some (.string a1_0) from rfl)
  have x3 := (blk_cell BK160.out 1).trans (show _ = some (.string a1_1) from rfl)
  go_upto_block 0 with fail
  (try simp only [Act.put, List.setIfInBounds_toArray, List.set_cons_zero, List.set_cons_succ])
  clear x0 x1 x2 x3
  go_cut [] (fun wc => Aside0 ((media_FitsP.l0 k l0_2 (l0_2.length : Int) 0 a1_0 a1_1 l1_2) = some r) ∧ Aside0 (wc.heap[gb159]? = some (.cells #[.string a0_0, .string a0_1, (.slice A0_2 l0_2.length c0_2)] 40 (0, 0))) ∧ Aside0 (wc.heap[gb160]? = some (.cells #[.string a1_0, .string a1_1, (.slice A1_2 l1_2.length c1_2)] 40 (0, 0))) ∧ Aside0 (Below w.heap.size w wc))
  case first =>
    have hFr := HF.out
    clear HF
    unfold media_Fits.f at hFr
    by_cases hA : fitB a0_0 a1_0 = true
    · rw [if_pos hA] at hFr
      by_cases hB : fitB a0_1 a1_1 = true
      · rw [if_pos hB] at hFr
        have HF := Aside0.mk hFr
        clear hFr
        unfold fitB at hA hB
        cases c1 : (a0_0.toList == [42]) <;> cases c2 : (a0_1.toList == [42]) <;> simp only [c1, c2, Bool.true_or, Bool.false_or] at hA hB
        all_goals
          have d1 : (a0_0.toList != [42]) = !(a0_0.toList == [42]) := rfl
          have d2 : (a0_1.toList != [42]) = !(a0_1.toList == [42]) := rfl
          rw [c1] at d1
          rw [c2] at d2
          have d3 : (a0_0.toList != a1_0.toList) = !(a0_0.toList == a1_0.toList) := rfl
          have d4 : (a0_1.toList != a1_1.toList) = !(a0_1.toList == a1_1.toList) := rfl
          try rw [hA] at d3
          try rw [hB] at d4
          go_wp2
          refine wp_loop_rounds 3 ?_
          rw [rounds_succ]
          go_wp2
          rw [rounds_succ]
          go_wp2
          rw [rounds_succ]
          go_wp2
          go_meet
          case rel => exact ⟨HF, ⟨by repeat (first | exact BK159.out | refine blk_alloc ?_ _)⟩, ⟨by repeat (first | exact BK160.out | refine blk_alloc ?_ _)⟩, ⟨by repeat (first | exact HB.out | apply below_alloc)⟩⟩
      · rw [if_neg hB] at hFr
        obtain rfl := Option.some.inj hFr
        clear hFr
        unfold fitB at hA hB
        cases c1 : (a0_0.toList == [42]) <;> cases c2 : (a0_1.toList == [42]) <;> simp only [c1, c2, Bool.true_or, Bool.false_or, Bool.not_eq_true] at hA hB
        all_goals try (exact absurd trivial hB)
        all_goals try (exact absurd hB zb47)
        all_goals
          have d1 : (a0_0.toList != [42]) = !(a0_0.toList == [42]) := rfl
          have d2 : (a0_1.toList != [42]) = !(a0_1.toList == [42]) := rfl
          rw [c1] at d1
          rw [c2] at d2
          have d3 : (a0_0.toList != a1_0.toList) = !(a0_0.toList == a1_0.toList) := rfl
          have d4 : (a0_1.toList != a1_1.toList) = !(a0_1.toList == a1_1.toList) := rfl
          try rw [hA] at d3
          try rw [hB] at d4
          go_wp2
          refine wp_loop_rounds 3 ?_
          rw [rounds_succ]
          go_wp2
          rw [rounds_succ]
          go_wp2
          go_ret
          exact ⟨rfl, by repeat (first | exact HB.out | apply below_alloc)⟩
    · rw [if_neg hA] at hFr
      obtain rfl := Option.some.inj hFr
      clear hFr
      unfold fitB at hA
      cases c1 : (a0_0.toList == [42]) <;> simp only [c1, Bool.true_or, Bool.false_or, Bool.not_eq_true] at hA
      all_goals try (exact absurd trivial hA)
      all_goals try (exact absurd hA zb47)
      all_goals
          have d1 : (a0_0.toList != [42]) = !(a0_0.toList == [42]) := rfl
          rw [c1] at d1
          have d3 : (a0_0.toList != a1_0.toList) = !(a0_0.toList == a1_0.toList) := rfl
          try rw [hA] at d3
          go_wp2
          refine wp_loop_rounds 3 ?_
          rw [rounds_succ]
          go_wp2
          go_ret
          exact ⟨rfl, by repeat (first | exact HB.out | apply below_alloc)⟩
  case rest =>
  obtain ⟨H', BK159, BK160, HB⟩ := hcut
  have y0 := (blk_cell BK159.out 2).trans (show _ = some (.slice A0_2 l0_2.length c0_2) from rfl)
  go_wp2
  clear y0
  first | go_loopg [41] k (fun kq v41 w' => ∃ (x41_1 : Int), v41 = .int .i64 x41_1 ∧ Aside0 (media_FitsP.l0 kq l0_2 (l0_2.length : Int) x41_1 a1_0 a1_1 l1_2 = some r) ∧ Aside0 (kq ≤ k) ∧ Aside0 (w'.heap[gb159]? = some (.cells #[.string a0_0, .string a0_1, (.slice A0_2 l0_2.length c0_2)] 40 (0, 0))) ∧ Aside0 (w'.heap[gb160]? = some (.cells #[.string a1_0, .string a1_1, (.slice A1_2 l1_2.length c1_2)] 40 (0, 0))) ∧ Aside0 (Below w.heap.size w w')) | (go_simp; go_loopg [41] k (fun kq v41 w' => ∃ (x41_1 : Int), v41 = .int .i64 x41_1 ∧ Aside0 (media_FitsP.l0 kq l0_2 (l0_2.length : Int) x41_1 a1_0 a1_1 l1_2 = some r) ∧ Aside0 (kq ≤ k) ∧ Aside0 (w'.heap[gb159]? = some (.cells #[.string a0_0, .string a0_1, (.slice A0_2 l0_2.length c0_2)] 40 (0, 0))) ∧ Aside0 (w'.heap[gb160]? = some (.cells #[.string a1_0, .string a1_1, (.slice A1_2 l1_2.length c1_2)] 40 (0, 0))) ∧ Aside0 (Below w.heap.size w w')))
  case atStart => exact ⟨(0), zb4, H', ⟨Nat.le_refl _⟩, ⟨by (with_reducible repeat (first | refine blk_drewN ?_ _ | refine blk_drew ?_ | refine blk_alloc ?_ _)); exact BK159.out⟩, ⟨by (with_reducible repeat (first | refine blk_drewN ?_ _ | refine blk_drew ?_ | refine blk_alloc ?_ _)); exact BK160.out⟩, ⟨by repeat (first | (with_reducible first | exact HB.out | apply below_alloc | apply pw_below_drewN | apply below_drew1 | refine below_set ?_ GE159.out | refine below_set ?_ GE160.out) | exact HB.out)⟩⟩
  case round =>
    clear H'
    try clear c1
    try clear p2
    try clear c3
    try clear c5
    try clear hcz6_0
    try clear hcz6_1
    try clear hcz6_2
    try clear hfz6_0
    try clear hfz6_1
    try clear hfz6_2
    obtain ⟨x41_1, rfl, HA, HK1, BK159, BK160, HB⟩ := hrel
    cases gk with
    | zero => exact absurd HA.out (by simp [media_FitsP.l0])
    | succ k1 =>
      have H := HA.out
      clear HA
      simp only [media_FitsP.l0] at H
      by_cases c7 : x41_1 < (l0_2.length : Int)
      · rw [if_pos c7] at H
        have c7b0 : decide (x41_1 < (l0_2.length : Int)) = true := decide_eq_true c7
        clear c7
        by_cases c8 : 0 ≤ x41_1
        · rw [if_pos c8] at H
          have c8b0 : decide (0 ≤ x41_1) = true := decide_eq_true c8
          clear c8
          by_cases c9 : x41_1 < (l0_2.length : Int)
          · rw [if_pos c9] at H
            have c9b0 : decide (x41_1 < (l0_2.length : Int)) = true := decide_eq_true c9
            clear c9
            replace H := Option.bind_eq_some_iff.mp H
            obtain ⟨⟨t163, t164⟩, A100, H⟩ := H
            replace H : (if ((rd_T50 l0_2 x41_1).f0).toList = ([113] : List UInt8) then (media_FitsP.l0 k1 l0_2 (l0_2.length : Int) (wrap64 (x41_1 + 1)) a1_0 a1_1 l1_2) else (if t164 = true then ((media_Small.f t163).bind fun t165 => ((media_Small.f ((rd_T50 l0_2 x41_1).f1)).bind fun t166 => (if t165.toList = t166.toList then (media_FitsP.l0 k1 l0_2 (l0_2.length : Int) (wrap64 (x41_1 + 1)) a1_0 a1_1 l1_2) else (some false)))) else (some false))) = some r := H
            have A10 := Aside0.mk A100
            clear A100
            by_cases c11 : ((rd_T50 l0_2 x41_1).f0).toList = ([113] : List UInt8)
            · rw [if_pos c11] at H
              have c11b0 : (((rd_T50 l0_2 x41_1).f0).toList == ([113] : List UInt8)) = true := beq_iff_eq.mpr c11
              have c11b1 : (((rd_T50 l0_2 x41_1).f0).toList != ([113] : List UInt8)) = false := bne_eq_false_iff_eq.mpr c11
              clear c11
              have H' := Aside0.mk H
              clear H
              have p161 : 0 ≤ (x41_1 : Int) := of_decide_eq_true zb3
              have q161 : x41_1 < (l0_2.length : Int) := of_decide_eq_true zb3
              obtain ⟨ad161, e161, hx161_0, hx161_1⟩ := at_T50 HR0_2.out x41_1 p161 q161
              cases e161
              replace hx161_0 := (HB.out.cell (World.block_lt_of_cell? w _ hx161_0)).trans hx161_0
              replace hx161_1 := (HB.out.cell (World.block_lt_of_cell? w _ hx161_1)).trans hx161_1
              replace p161 := eq_true p161
              replace q161 := eq_true q161
              try go_wp2_with (first | ((with_reducible refine gate_dst (N := 8) rfl ?_); refine box_event ?hg (N := 8) ?hd (cs := #[.string (⟨#[]⟩ : ByteArray), .string (⟨#[]⟩ : ByteArray)]) (t := 50) ?hr ?_; (case hd => rfl); (case hg => rfl); (case hr => first | (go_simp; done) | (go_simp; rfl)); intro gb162 hg w12 hbox hb; have n0_ := Aside0.mk (blk_below (g := gb159) (o := .cells #[.string a0_0, .string a0_1, .slice (some ad161) l0_2.length c0_2] 40 (0, 0)) zb10 hb); have n1_ := Aside0.mk (blk_below (g := gb160) (o := .cells #[.string a1_0, .string a1_1, .slice A1_2 l1_2.length c1_2] 40 (0, 0)) zb12 hb); have n2_ := Aside0.mk (below_step zb8 hb); have n3_ := Aside0.mk (hbox); have n4_ := Aside0.mk ((by rw [hg]; exact (below_size zb8) : w.heap.size ≤ gb162)); have n5_ := Aside0.mk ((by rw [hg]; exact (below_size zb8) : w.heap.size ≤ gb162)); have n6_ := Aside0.mk ((by rw [hg]; exact Nat.ne_of_lt (blk_lt (g := gb159) (o := .cells #[.string a0_0, .string a0_1, .slice (some ad161) l0_2.length c0_2] 40 (0, 0)) zb10) : gb159 ≠ gb162)); have n7_ := Aside0.mk ((by rw [hg]; exact Nat.ne_of_gt (blk_lt (g := gb159) (o := .cells #[.string a0_0, .string a0_1, .slice (some ad161) l0_2.length c0_2] 40 (0, 0)) zb10) : gb162 ≠ gb159)); have n8_ := Aside0.mk ((by rw [hg]; exact Nat.ne_of_lt (blk_lt (g := gb160) (o := .cells #[.string a1_0, .string a1_1, .slice A1_2 l1_2.length c1_2] 40 (0, 0)) zb12) : gb160 ≠ gb162)); have n9_ := Aside0.mk ((by rw [hg]; exact Nat.ne_of_gt (blk_lt (g := gb160) (o := .cells #[.string a1_0, .string a1_1, .slice A1_2 l1_2.length c1_2] 40 (0, 0)) zb12) : gb162 ≠ gb160)); clear BK159; clear BK160; clear HB; have BK159 := n0_; have BK160 := n1_; have HB := n2_; have BK162 := n3_; have GW162 := n4_; have GE162 := n5_; have NB159_162 := n6_; have NB162_159 := n7_; have NB160_162 := n8_; have NB162_160 := n9_; clear n0_ n1_ n2_ n3_ n4_ n5_ n6_ n7_ n8_ n9_; clear hb hbox hg; have hnb13 := NB162_159.out; have hnc13 := NB159_162.out; have hnb14 := NB162_160.out; have hnc14 := NB160_162.out; have hcz15_0 : w12.cell? ⟨gb162, 0, none⟩ = some (.string (⟨#[]⟩ : ByteArray)) := (blk_cell BK162.out 0).trans rfl; have hcz15_1 : w12.cell? ⟨gb162, 1, none⟩ = some (.string (⟨#[]⟩ : ByteArray)) := (blk_cell BK162.out 1).trans rfl; have hfz15_0 := blk_frozen BK162.out 0; have hfz15_1 := blk_frozen BK162.out 1; have hnb16 := NB160_159.out; have hnc16 := NB159_160.out; have hcz17_0 : w12.cell? ⟨gb160, 0, none⟩ = some (.string a1_0) := (blk_cell BK160.out 0).trans rfl; have hcz17_1 : w12.cell? ⟨gb160, 1, none⟩ = some (.string a1_1) := (blk_cell BK160.out 1).trans rfl; have hcz17_2 : w12.cell? ⟨gb160, 2, none⟩ = some (.slice A1_2 l1_2.length c1_2) := (blk_cell BK160.out 2).trans rfl; have hfz17_0 := blk_frozen BK160.out 0; have hfz17_1 := blk_frozen BK160.out 1; have hfz17_2 := blk_frozen BK160.out 2) | ((with_reducible refine gate_callee (f := 31) rfl ?_); refine goesL_ (some 49) rfl rfl Tryz.func31 zb9 rfl #[.agg #[.string a1_0, .string a1_1, .slice A1_2 l1_2.length c1_2], .string ((rd_T50 l0_2 x41_1).f0)] rfl zb2 ?_; (with_reducible refine (media_Param.calls k1 a1_0 a1_1 _ _ l1_2 ((rd_T50 l0_2 x41_1).f0) t163 t164 _ ?side1 ?side2 A10.out).mono ?_); (case side1 => exact Kd.C_below HR1_2.out zb7); (case side2 => exact HC1_2.out); rintro e w18 ⟨rfl, hb⟩; refine ⟨_, rfl, ?_⟩; have n0_ := Aside0.mk (blk_below (g := gb159) (o := .cells #[.string a0_0, .string a0_1, .slice (some ad161) l0_2.length c0_2] 40 (0, 0)) zb22 hb); have n1_ := Aside0.mk (blk_below (g := gb160) (o := .cells #[.string a1_0, .string a1_1, .slice A1_2 l1_2.length c1_2] 40 (0, 0)) zb21 hb); have n2_ := Aside0.mk (blk_below (g := gb162) (o := .cells #[.string ((rd_T50 l0_2 x41_1).f0), .string ((rd_T50 l0_2 x41_1).f1)] 50 (0, 0)) zb18 hb); have n3_ := Aside0.mk (below_step zb7 hb); clear BK159; clear BK160; clear BK162; clear HB; have BK159 := n0_; have BK160 := n1_; have BK162 := n2_; have HB := n3_; clear n0_ n1_ n2_ n3_; (try clear hb); (try clear hb2); (try clear hk); (try clear hi)))
              have n0_ := Aside0.mk (blk_drew BK159.out)
              have n1_ := Aside0.mk (blk_drew BK160.out)
              have n2_ := Aside0.mk (blk_drew BK162.out)
              have n3_ := Aside0.mk (below_drew1 HB.out)
              clear BK159
              clear BK160
              clear BK162
              clear HB
              have BK159 := n0_
              have BK160 := n1_
              have BK162 := n2_
              have HB := n3_
              clear n0_ n1_ n2_ n3_
              refine start_ (n := 15) (S := fun w' => w'.cell? ⟨gb162, 0, none⟩ = some (.string ((rd_T50 l0_2 x41_1).f0)) ∧ w'.cell? ⟨gb162, 1, none⟩ = some (.string ((rd_T50 l0_2 x41_1).f1))) (ds := []) #[false, false, false, false, false, false, false, false, false, false, false, false, false, false, false] zb9 rfl rfl ⟨(blk_cell BK162.out 0).trans rfl, (blk_cell BK162.out 1).trans rfl⟩ (fun hHeld => ?_); refine with_tabW media_FitsP.tab11 media_FitsP.bits11 (fun HT_ HW_ => ?_)
              generalize w18.drew = w19 at BK159 BK160 BK162 HB hHeld ⊢
              refine pure_ (i := 0) (N := some 52) (v := ?_) (a' := ?_) #[true, false, false, false, false, false, false, false, false, false, false, false, false, false, false] rfl rfl (any_of HT_.out zb9) (fun _ _ _ h => h) (Or.inl ⟨by rfl, ?_⟩) ?_ ?_
              rotate_left
              · intro w'
                go_simp
                first | with_reducible rfl | (rw [if_neg zb1])
              rotate_left
              · simp only [Act.put, List.setIfInBounds_toArray, List.set_cons_zero, List.set_cons_succ, i64_w, i32_w]
                rfl
              refine take_ (i := 1) (N := some 53) (v := ?_) (a' := ?_) #[true, true, false, false, false, false, false, false, false, false, false, false, false, false, false] rfl rfl (take_ofW HT_.out HW_.out zb9) (fun _ _ _ h => h) (Or.inl ⟨by rfl, ?_⟩) hHeld ?_ ?_
              rotate_left
              · rintro w' ⟨s0, s1⟩
                go_simp
                first | with_reducible rfl | (rw [if_neg zb1])
              rotate_left
              · simp only [Act.put, List.setIfInBounds_toArray, List.set_cons_zero, List.set_cons_succ, i64_w, i32_w]
                rfl
              refine pure_ (i := 2) (N := some 54) (v := ?_) (a' := ?_) #[true, true, true, false, false, false, false, false, false, false, false, false, false, false, false] rfl rfl (any_of HT_.out zb9) (fun _ _ _ h => h) (Or.inl ⟨by rfl, ?_⟩) ?_ ?_
              rotate_left
              · intro w'
                go_simp
                first | with_reducible rfl | (rw [if_neg zb1])
              rotate_left
              · simp only [Act.put, List.setIfInBounds_toArray, List.set_cons_zero, List.set_cons_succ, i64_w, i32_w]
                rfl
              refine pure_ (i := 3) (N := some 55) (v := ?_) (a' := ?_) #[true, true, true, true, false, false, false, false, false, false, false, false, false, false, false] rfl rfl (any_of HT_.out zb9) (fun _ _ _ h => h) (Or.inl ⟨by rfl, ?_⟩) ?_ ?_
              rotate_left
              · intro w'
                go_simp
                first | with_reducible rfl | (rw [if_neg zb1])
              rotate_left
              · simp only [Act.put, List.setIfInBounds_toArray, List.set_cons_zero, List.set_cons_succ, i64_w, i32_w]
                rfl
              refine pure_ (i := 4) (N := some 56) (v := undef) (a' := ?_) #[true, true, true, true, true, false, false, false, false, false, false, false, false, false, false] rfl rfl (any_of HT_.out zb9) (fun _ _ _ h => h) (Or.inr ⟨by rfl, rfl⟩) ?_ ?_
              rotate_left
              · simp only [Act.put, List.setIfInBounds_toArray, List.set_cons_zero, List.set_cons_succ, i64_w, i32_w]
                rfl
              refine pure_ (i := 5) (N := some 57) (v := undef) (a' := ?_) #[true, true, true, true, true, true, false, false, false, false, false, false, false, false, false] rfl rfl (any_of HT_.out zb9) (fun _ _ _ h => h) (Or.inr ⟨by rfl, rfl⟩) ?_ ?_
              rotate_left
              · simp only [Act.put, List.setIfInBounds_toArray, List.set_cons_zero, List.set_cons_succ, i64_w, i32_w]
                rfl
              refine pure_ (i := 6) (N := some 58) (v := undef) (a' := ?_) #[true, true, true, true, true, true, true, false, false, false, false, false, false, false, false] rfl rfl (any_of HT_.out zb9) (fun _ _ _ h => h) (Or.inr ⟨by rfl, rfl⟩) ?_ ?_
              rotate_left
              · simp only [Act.put, List.setIfInBounds_toArray, List.set_cons_zero, List.set_cons_succ, i64_w, i32_w]
                rfl
              refine pure_ (i := 7) (N := some 59) (v := undef) (a' := ?_) #[true, true, true, true, true, true, true, true, false, false, false, false, false, false, false] rfl rfl (any_of HT_.out zb9) (fun _ _ _ h => h) (Or.inr ⟨by rfl, rfl⟩) ?_ ?_
              rotate_left
              · simp only [Act.put, List.setIfInBounds_toArray, List.set_cons_zero, List.set_cons_succ, i64_w, i32_w]
                rfl
              refine pure_ (i := 8) (N := some 60) (v := undef) (a' := ?_) #[true, true, true, true, true, true, true, true, true, false, false, false, false, false, false] rfl rfl (any_of HT_.out zb9) (fun _ _ _ h => h) (Or.inr ⟨by rfl, rfl⟩) ?_ ?_
              rotate_left
              · simp only [Act.put, List.setIfInBounds_toArray, List.set_cons_zero, List.set_cons_succ, i64_w, i32_w]
                rfl
              refine pure_ (i := 9) (N := some 61) (v := undef) (a' := ?_) #[true, true, true, true, true, true, true, true, true, true, false, false, false, false, false] rfl rfl (any_of HT_.out zb9) (fun _ _ _ h => h) (Or.inr ⟨by rfl, rfl⟩) ?_ ?_
              rotate_left
              · simp only [Act.put, List.setIfInBounds_toArray, List.set_cons_zero, List.set_cons_succ, i64_w, i32_w]
                rfl
              refine pure_ (i := 10) (N := some 62) (v := undef) (a' := ?_) #[true, true, true, true, true, true, true, true, true, true, true, false, false, false, false] rfl rfl (any_of HT_.out zb9) (fun _ _ _ h => h) (Or.inr ⟨by rfl, rfl⟩) ?_ ?_
              rotate_left
              · simp only [Act.put, List.setIfInBounds_toArray, List.set_cons_zero, List.set_cons_succ, i64_w, i32_w]
                rfl
              refine pure_ (i := 11) (N := some 63) (v := undef) (a' := ?_) #[true, true, true, true, true, true, true, true, true, true, true, true, false, false, false] rfl rfl (any_of HT_.out zb9) (fun _ _ _ h => h) (Or.inr ⟨by rfl, rfl⟩) ?_ ?_
              rotate_left
              · simp only [Act.put, List.setIfInBounds_toArray, List.set_cons_zero, List.set_cons_succ, i64_w, i32_w]
                rfl
              refine pure_ (i := 12) (N := some 64) (v := undef) (a' := ?_) #[true, true, true, true, true, true, true, true, true, true, true, true, true, false, false] rfl rfl (any_of HT_.out zb9) (fun _ _ _ h => h) (Or.inr ⟨by rfl, rfl⟩) ?_ ?_
              rotate_left
              · simp only [Act.put, List.setIfInBounds_toArray, List.set_cons_zero, List.set_cons_succ, i64_w, i32_w]
                rfl
              refine pure_ (i := 13) (N := some 65) (v := undef) (a' := ?_) #[true, true, true, true, true, true, true, true, true, true, true, true, true, true, false] rfl rfl (any_of HT_.out zb9) (fun _ _ _ h => h) (Or.inr ⟨by rfl, rfl⟩) ?_ ?_
              rotate_left
              · simp only [Act.put, List.setIfInBounds_toArray, List.set_cons_zero, List.set_cons_succ, i64_w, i32_w]
                rfl
              refine pure_ (i := 14) (N := some 66) (v := ?_) (a' := ?_) #[true, true, true, true, true, true, true, true, true, true, true, true, true, true, true] rfl rfl (any_of HT_.out zb9) (fun _ _ _ h => h) (Or.inl ⟨by rfl, ?_⟩) ?_ ?_
              rotate_left
              · intro w'
                go_simp
                first | with_reducible rfl | (rw [if_neg zb1])
              rotate_left
              · simp only [Act.put, List.setIfInBounds_toArray, List.set_cons_zero, List.set_cons_succ, i64_w, i32_w]
                rfl
              refine done_ (done_of HT_.out zb9) ?_
              try go_wp2
              go_roundg k1
              case measure => have := HK1.out; omega
              case rel => exact ⟨(wrap64 (x41_1 + 1)), zb4, H', ⟨by have := HK1.out; omega⟩, ⟨by (with_reducible repeat (first | refine blk_drewN ?_ _ | refine blk_drew ?_ | refine blk_alloc ?_ _)); exact BK159.out⟩, ⟨by (with_reducible repeat (first | refine blk_drewN ?_ _ | refine blk_drew ?_ | refine blk_alloc ?_ _)); exact BK160.out⟩, ⟨by repeat (first | (with_reducible first | exact HB.out | apply below_alloc | apply pw_below_drewN | apply below_drew1 | refine below_set ?_ GE159.out | refine below_set ?_ GE160.out | refine below_set ?_ GE162.out) | exact HB.out)⟩⟩
            · rw [if_neg c11] at H
              have c11b0 : (((rd_T50 l0_2 x41_1).f0).toList == ([113] : List UInt8)) = false := beq_eq_false_iff_ne.mpr c11
              have c11b1 : (((rd_T50 l0_2 x41_1).f0).toList != ([113] : List UInt8)) = true := bne_iff_ne.mpr c11
              by_cases c20 : t164 = true
              · subst c20
                replace H : ((media_Small.f t163).bind fun t165 => ((media_Small.f ((rd_T50 l0_2 x41_1).f1)).bind fun t166 => (if t165.toList = t166.toList then (media_FitsP.l0 k1 l0_2 (l0_2.length : Int) (wrap64 (x41_1 + 1)) a1_0 a1_1 l1_2) else (some false)))) = some r := by rw [if_pos rfl] at H; exact H
                replace H := Option.bind_eq_some_iff.mp H
                obtain ⟨t165, A210, H⟩ := H
                replace H : ((media_Small.f ((rd_T50 l0_2 x41_1).f1)).bind fun t166 => (if t165.toList = t166.toList then (media_FitsP.l0 k1 l0_2 (l0_2.length : Int) (wrap64 (x41_1 + 1)) a1_0 a1_1 l1_2) else (some false))) = some r := H
                have A21 := Aside0.mk A210
                clear A210
                replace H := Option.bind_eq_some_iff.mp H
                obtain ⟨t166, A220, H⟩ := H
                replace H : (if t165.toList = t166.toList then (media_FitsP.l0 k1 l0_2 (l0_2.length : Int) (wrap64 (x41_1 + 1)) a1_0 a1_1 l1_2) else (some false)) = some r := H
                have A22 := Aside0.mk A220
                clear A220
                by_cases c23 : t165.toList = t166.toList
                · rw [if_pos c23] at H
                  have c23b0 : (t165.toList == t166.toList) = true := beq_iff_eq.mpr c23
                  have c23b1 : (t165.toList != t166.toList) = false := bne_eq_false_iff_eq.mpr c23
                  clear c23
                  have H' := Aside0.mk H
                  clear H
                  have p161 : 0 ≤ (x41_1 : Int) := of_decide_eq_true zb3
                  have q161 : x41_1 < (l0_2.length : Int) := of_decide_eq_true zb3
                  obtain ⟨ad161, e161, hx161_0, hx161_1⟩ := at_T50 HR0_2.out x41_1 p161 q161
                  cases e161
                  replace hx161_0 := (HB.out.cell (World.block_lt_of_cell? w _ hx161_0)).trans hx161_0
                  replace hx161_1 := (HB.out.cell (World.block_lt_of_cell? w _ hx161_1)).trans hx161_1
                  replace p161 := eq_true p161
                  replace q161 := eq_true q161
                  try go_wp2_with (first | ((with_reducible refine gate_dst (N := 8) rfl ?_); refine box_event ?hg (N := 8) ?hd (cs := #[.string (⟨#[]⟩ : ByteArray), .string (⟨#[]⟩ : ByteArray)]) (t := 50) ?hr ?_; (case hd => rfl); (case hg => rfl); (case hr => first | (go_simp; done) | (go_simp; rfl)); intro gb162 hg w24 hbox hb; have n0_ := Aside0.mk (blk_below (g := gb159) (o := .cells #[.string a0_0, .string a0_1, .slice (some ad161) l0_2.length c0_2] 40 (0, 0)) zb10 hb); have n1_ := Aside0.mk (blk_below (g := gb160) (o := .cells #[.string a1_0, .string a1_1, .slice A1_2 l1_2.length c1_2] 40 (0, 0)) zb12 hb); have n2_ := Aside0.mk (below_step zb8 hb); have n3_ := Aside0.mk (hbox); have n4_ := Aside0.mk ((by rw [hg]; exact (below_size zb8) : w.heap.size ≤ gb162)); have n5_ := Aside0.mk ((by rw [hg]; exact (below_size zb8) : w.heap.size ≤ gb162)); have n6_ := Aside0.mk ((by rw [hg]; exact Nat.ne_of_lt (blk_lt (g := gb159) (o := .cells #[.string a0_0, .string a0_1, .slice (some ad161) l0_2.length c0_2] 40 (0, 0)) zb10) : gb159 ≠ gb162)); have n7_ := Aside0.mk ((by rw [hg]; exact Nat.ne_of_gt (blk_lt (g := gb159) (o := .cells #[.string a0_0, .string a0_1, .slice (some ad161) l0_2.length c0_2] 40 (0, 0)) zb10) : gb162 ≠ gb159)); have n8_ := Aside0.mk ((by rw [hg]; exact Nat.ne_of_lt (blk_lt (g := gb160) (o := .cells #[.string a1_0, .string a1_1, .slice A1_2 l1_2.length c1_2] 40 (0, 0)) zb12) : gb160 ≠ gb162)); have n9_ := Aside0.mk ((by rw [hg]; exact Nat.ne_of_gt (blk_lt (g := gb160) (o := .cells #[.string a1_0, .string a1_1, .slice A1_2 l1_2.length c1_2] 40 (0, 0)) zb12) : gb162 ≠ gb160)); clear BK159; clear BK160; clear HB; have BK159 := n0_; have BK160 := n1_; have HB := n2_; have BK162 := n3_; have GW162 := n4_; have GE162 := n5_; have NB159_162 := n6_; have NB162_159 := n7_; have NB160_162 := n8_; have NB162_160 := n9_; clear n0_ n1_ n2_ n3_ n4_ n5_ n6_ n7_ n8_ n9_; clear hb hbox hg; have hnb25 := NB162_159.out; have hnc25 := NB159_162.out; have hnb26 := NB162_160.out; have hnc26 := NB160_162.out; have hcz27_0 : w24.cell? ⟨gb162, 0, none⟩ = some (.string (⟨#[]⟩ : ByteArray)) := (blk_cell BK162.out 0).trans rfl; have hcz27_1 : w24.cell? ⟨gb162, 1, none⟩ = some (.string (⟨#[]⟩ : ByteArray)) := (blk_cell BK162.out 1).trans rfl; have hfz27_0 := blk_frozen BK162.out 0; have hfz27_1 := blk_frozen BK162.out 1; have hnb28 := NB160_159.out; have hnc28 := NB159_160.out; have hcz29_0 : w24.cell? ⟨gb160, 0, none⟩ = some (.string a1_0) := (blk_cell BK160.out 0).trans rfl; have hcz29_1 : w24.cell? ⟨gb160, 1, none⟩ = some (.string a1_1) := (blk_cell BK160.out 1).trans rfl; have hcz29_2 : w24.cell? ⟨gb160, 2, none⟩ = some (.slice A1_2 l1_2.length c1_2) := (blk_cell BK160.out 2).trans rfl; have hfz29_0 := blk_frozen BK160.out 0; have hfz29_1 := blk_frozen BK160.out 1; have hfz29_2 := blk_frozen BK160.out 2) | ((with_reducible refine gate_callee (f := 31) rfl ?_); refine goesL_ (some 49) rfl rfl Tryz.func31 zb9 rfl #[.agg #[.string a1_0, .string a1_1, .slice A1_2 l1_2.length c1_2], .string ((rd_T50 l0_2 x41_1).f0)] rfl zb2 ?_; (with_reducible refine (media_Param.calls k1 a1_0 a1_1 _ _ l1_2 ((rd_T50 l0_2 x41_1).f0) t163 true _ ?side1 ?side2 A10.out).mono ?_); (case side1 => exact Kd.C_below HR1_2.out zb7); (case side2 => exact HC1_2.out); rintro e w30 ⟨rfl, hb⟩; refine ⟨_, rfl, ?_⟩; have n0_ := Aside0.mk (blk_below (g := gb159) (o := .cells #[.string a0_0, .string a0_1, .slice (some ad161) l0_2.length c0_2] 40 (0, 0)) zb22 hb); have n1_ := Aside0.mk (blk_below (g := gb160) (o := .cells #[.string a1_0, .string a1_1, .slice A1_2 l1_2.length c1_2] 40 (0, 0)) zb21 hb); have n2_ := Aside0.mk (blk_below (g := gb162) (o := .cells #[.string ((rd_T50 l0_2 x41_1).f0), .string ((rd_T50 l0_2 x41_1).f1)] 50 (0, 0)) zb18 hb); have n3_ := Aside0.mk (below_step zb7 hb); clear BK159; clear BK160; clear BK162; clear HB; have BK159 := n0_; have BK160 := n1_; have BK162 := n2_; have HB := n3_; clear n0_ n1_ n2_ n3_; (try clear hb); (try clear hb2); (try clear hk); (try clear hi)))
                  have n0_ := Aside0.mk (blk_drew BK159.out)
                  have n1_ := Aside0.mk (blk_drew BK160.out)
                  have n2_ := Aside0.mk (blk_drew BK162.out)
                  have n3_ := Aside0.mk (below_drew1 HB.out)
                  clear BK159
                  clear BK160
                  clear BK162
                  clear HB
                  have BK159 := n0_
                  have BK160 := n1_
                  have BK162 := n2_
                  have HB := n3_
                  clear n0_ n1_ n2_ n3_
                  refine start_ (n := 15) (S := fun w' => w'.cell? ⟨gb162, 0, none⟩ = some (.string ((rd_T50 l0_2 x41_1).f0)) ∧ w'.cell? ⟨gb162, 1, none⟩ = some (.string ((rd_T50 l0_2 x41_1).f1))) (ds := []) #[false, false, false, false, false, false, false, false, false, false, false, false, false, false, false] zb9 rfl rfl ⟨(blk_cell BK162.out 0).trans rfl, (blk_cell BK162.out 1).trans rfl⟩ (fun hHeld => ?_); refine with_tabW media_FitsP.tab11 media_FitsP.bits11 (fun HT_ HW_ => ?_)
                  generalize w30.drew = w31 at BK159 BK160 BK162 HB hHeld ⊢
                  refine pure_ (i := 0) (N := some 52) (v := ?_) (a' := ?_) #[true, false, false, false, false, false, false, false, false, false, false, false, false, false, false] rfl rfl (any_of HT_.out zb9) (fun _ _ _ h => h) (Or.inl ⟨by rfl, ?_⟩) ?_ ?_
                  rotate_left
                  · intro w'
                    go_simp
                    first | with_reducible rfl | (rw [if_neg zb1])
                  rotate_left
                  · simp only [Act.put, List.setIfInBounds_toArray, List.set_cons_zero, List.set_cons_succ, i64_w, i32_w]
                    rfl
                  refine take_ (i := 1) (N := some 53) (v := ?_) (a' := ?_) #[true, true, false, false, false, false, false, false, false, false, false, false, false, false, false] rfl rfl (take_ofW HT_.out HW_.out zb9) (fun _ _ _ h => h) (Or.inl ⟨by rfl, ?_⟩) hHeld ?_ ?_
                  rotate_left
                  · rintro w' ⟨s0, s1⟩
                    go_simp
                    first | with_reducible rfl | (rw [if_neg zb1])
                  rotate_left
                  · simp only [Act.put, List.setIfInBounds_toArray, List.set_cons_zero, List.set_cons_succ, i64_w, i32_w]
                    rfl
                  refine pure_ (i := 2) (N := some 54) (v := ?_) (a' := ?_) #[true, true, true, false, false, false, false, false, false, false, false, false, false, false, false] rfl rfl (any_of HT_.out zb9) (fun _ _ _ h => h) (Or.inl ⟨by rfl, ?_⟩) ?_ ?_
                  rotate_left
                  · intro w'
                    go_simp
                    first | with_reducible rfl | (rw [if_neg zb1])
                  rotate_left
                  · simp only [Act.put, List.setIfInBounds_toArray, List.set_cons_zero, List.set_cons_succ, i64_w, i32_w]
                    rfl
                  refine pure_ (i := 3) (N := some 55) (v := ?_) (a' := ?_) #[true, true, true, true, false, false, false, false, false, false, false, false, false, false, false] rfl rfl (any_of HT_.out zb9) (fun _ _ _ h => h) (Or.inl ⟨by rfl, ?_⟩) ?_ ?_
                  rotate_left
                  · intro w'
                    go_simp
                    first | with_reducible rfl | (rw [if_neg zb1])
                  rotate_left
                  · simp only [Act.put, List.setIfInBounds_toArray, List.set_cons_zero, List.set_cons_succ, i64_w, i32_w]
                    rfl
                  refine pure_ (i := 4) (N := some 56) (v := ?_) (a' := ?_) #[true, true, true, true, true, false, false, false, false, false, false, false, false, false, false] rfl rfl (any_of HT_.out zb9) (fun _ _ _ h => h) (Or.inl ⟨by rfl, ?_⟩) ?_ ?_
                  rotate_left
                  · intro w'
                    go_simp
                    first | with_reducible rfl | (rw [if_neg zb1])
                  rotate_left
                  · simp only [Act.put, List.setIfInBounds_toArray, List.set_cons_zero, List.set_cons_succ, i64_w, i32_w]
                    rfl
                  refine pure_ (i := 5) (N := some 57) (v := ?_) (a' := ?_) #[true, true, true, true, true, true, false, false, false, false, false, false, false, false, false] rfl rfl (any_of HT_.out zb9) (fun _ _ _ h => h) (Or.inl ⟨by rfl, ?_⟩) ?_ ?_
                  rotate_left
                  · intro w'
                    go_simp
                    first | with_reducible rfl | (rw [if_neg zb1])
                  rotate_left
                  · simp only [Act.put, List.setIfInBounds_toArray, List.set_cons_zero, List.set_cons_succ, i64_w, i32_w]
                    rfl
                  refine pure_ (i := 6) (N := some 58) (v := ?_) (a' := ?_) #[true, true, true, true, true, true, true, false, false, false, false, false, false, false, false] rfl rfl (any_of HT_.out zb9) (fun _ _ _ h => h) (Or.inl ⟨by rfl, ?_⟩) ?_ ?_
                  rotate_left
                  · intro w'
                    go_simp
                    first | with_reducible rfl | (rw [if_neg zb1])
                  rotate_left
                  · simp only [Act.put, List.setIfInBounds_toArray, List.set_cons_zero, List.set_cons_succ, i64_w, i32_w]
                    rfl
                  refine pure_ (i := 7) (N := some 59) (v := ?_) (a' := ?_) #[true, true, true, true, true, true, true, true, false, false, false, false, false, false, false] rfl rfl (any_of HT_.out zb9) (fun _ _ _ h => h) (Or.inl ⟨by rfl, ?_⟩) ?_ ?_
                  rotate_left
                  · intro w'
                    go_simp
                    first | with_reducible rfl | (rw [if_neg zb1])
                  rotate_left
                  · simp only [Act.put, List.setIfInBounds_toArray, List.set_cons_zero, List.set_cons_succ, i64_w, i32_w]
                    rfl
                  refine pure_ (i := 9) (N := some 61) (v := ?_) (a' := ?_) #[true, true, true, true, true, true, true, true, false, true, false, false, false, false, false] rfl rfl (any_of HT_.out zb9) (fun _ _ _ h => h) (Or.inl ⟨by rfl, ?_⟩) ?_ ?_
                  rotate_left
                  · intro w'
                    go_simp
                    first | with_reducible rfl | (rw [if_neg zb1])
                  rotate_left
                  · simp only [Act.put, List.setIfInBounds_toArray, List.set_cons_zero, List.set_cons_succ, i64_w, i32_w]
                    rfl
                  refine take_ (i := 10) (N := some 62) (v := ?_) (a' := ?_) #[true, true, true, true, true, true, true, true, false, true, true, false, false, false, false] rfl rfl (take_ofW HT_.out HW_.out zb9) (fun _ _ _ h => h) (Or.inl ⟨by rfl, ?_⟩) hHeld ?_ ?_
                  rotate_left
                  · rintro w' ⟨s0, s1⟩
                    go_simp
                    first | with_reducible rfl | (rw [if_neg zb1])
                  rotate_left
                  · simp only [Act.put, List.setIfInBounds_toArray, List.set_cons_zero, List.set_cons_succ, i64_w, i32_w]
                    rfl
                  refine one_ (i := 8) (N := some 60) #[true, true, true, true, true, true, true, true, true, true, true, false, false, false, false] rfl rfl (one_of HT_.out zb9) zb47 (fun K hK => ?_)
                  refine goes_ Tryz.func55 zb9 rfl #[.string t163] (by rfl) rfl rfl zb2 ?_
                  with_reducible refine (media_Small.calls t163 t165 _ A21.out).mono ?_
                  rintro e w32 ⟨rfl, hb⟩
                  refine ⟨_, rfl, ?_⟩
                  have n0_ := Aside0.mk (blk_below (g := gb159) (o := .cells #[.string a0_0, .string a0_1, .slice (some ad161) l0_2.length c0_2] 40 (0, 0)) zb10 hb)
                  have n1_ := Aside0.mk (blk_below (g := gb160) (o := .cells #[.string a1_0, .string a1_1, .slice A1_2 l1_2.length c1_2] 40 (0, 0)) zb12 hb)
                  have n2_ := Aside0.mk (blk_below (g := gb162) (o := .cells #[.string ((rd_T50 l0_2 x41_1).f0), .string ((rd_T50 l0_2 x41_1).f1)] 50 (0, 0)) zb48 hb)
                  have n3_ := Aside0.mk (below_step zb7 hb)
                  clear BK159
                  clear BK160
                  clear BK162
                  clear HB
                  have BK159 := n0_
                  have BK160 := n1_
                  have BK162 := n2_
                  have HB := n3_
                  clear n0_ n1_ n2_ n3_
                  (try clear hb)
                  (try clear hb2)
                  (try clear hk)
                  (try clear hi)
                  refine hK.out _ _ ⟨(blk_cell BK162.out 0).trans rfl, (blk_cell BK162.out 1).trans rfl⟩ (fun hHeld => ?_)
                  clear hK K
                  refine norm_ (a' := ?_) ?_ ?_
                  rotate_left
                  · show Act.put _ (some 60) _ = _
                    simp only [Act.put, List.setIfInBounds_toArray, List.set_cons_zero, List.set_cons_succ, i64_w, i32_w]
                    rfl
                  refine one_ (i := 11) (N := some 63) #[true, true, true, true, true, true, true, true, true, true, true, true, false, false, false] rfl rfl (one_of HT_.out zb9) zb47 (fun K hK => ?_)
                  refine goes_ Tryz.func55 zb9 rfl #[.string ((rd_T50 l0_2 x41_1).f1)] (by rfl) rfl rfl zb2 ?_
                  with_reducible refine (media_Small.calls ((rd_T50 l0_2 x41_1).f1) t166 _ A22.out).mono ?_
                  rintro e w33 ⟨rfl, hb⟩
                  refine ⟨_, rfl, ?_⟩
                  have n0_ := Aside0.mk (blk_below (g := gb159) (o := .cells #[.string a0_0, .string a0_1, .slice (some ad161) l0_2.length c0_2] 40 (0, 0)) zb10 hb)
                  have n1_ := Aside0.mk (blk_below (g := gb160) (o := .cells #[.string a1_0, .string a1_1, .slice A1_2 l1_2.length c1_2] 40 (0, 0)) zb12 hb)
                  have n2_ := Aside0.mk (blk_below (g := gb162) (o := .cells #[.string ((rd_T50 l0_2 x41_1).f0), .string ((rd_T50 l0_2 x41_1).f1)] 50 (0, 0)) zb48 hb)
                  have n3_ := Aside0.mk (below_step zb7 hb)
                  clear BK159
                  clear BK160
                  clear BK162
                  clear HB
                  have BK159 := n0_
                  have BK160 := n1_
                  have BK162 := n2_
                  have HB := n3_
                  clear n0_ n1_ n2_ n3_
                  (try clear hb)
                  (try clear hb2)
                  (try clear hk)
                  (try clear hi)
                  refine hK.out _ _ ⟨(blk_cell BK162.out 0).trans rfl, (blk_cell BK162.out 1).trans rfl⟩ (fun hHeld => ?_)
                  clear hK K
                  refine norm_ (a' := ?_) ?_ ?_
                  rotate_left
                  · show Act.put _ (some 63) _ = _
                    simp only [Act.put, List.setIfInBounds_toArray, List.set_cons_zero, List.set_cons_succ, i64_w, i32_w]
                    rfl
                  refine pure_ (i := 12) (N := some 64) (v := ?_) (a' := ?_) #[true, true, true, true, true, true, true, true, true, true, true, true, true, false, false] rfl rfl (any_of HT_.out zb9) (fun _ _ _ h => h) (Or.inl ⟨by rfl, ?_⟩) ?_ ?_
                  rotate_left
                  · intro w'
                    go_simp
                    first | with_reducible rfl | (rw [if_neg zb1])
                  rotate_left
                  · simp only [Act.put, List.setIfInBounds_toArray, List.set_cons_zero, List.set_cons_succ, i64_w, i32_w]
                    rfl
                  refine pure_ (i := 13) (N := some 65) (v := ?_) (a' := ?_) #[true, true, true, true, true, true, true, true, true, true, true, true, true, true, false] rfl rfl (any_of HT_.out zb9) (fun _ _ _ h => h) (Or.inl ⟨by rfl, ?_⟩) ?_ ?_
                  rotate_left
                  · intro w'
                    go_simp
                    first | with_reducible rfl | (rw [if_neg zb1])
                  rotate_left
                  · simp only [Act.put, List.setIfInBounds_toArray, List.set_cons_zero, List.set_cons_succ, i64_w, i32_w]
                    rfl
                  refine pure_ (i := 14) (N := some 66) (v := ?_) (a' := ?_) #[true, true, true, true, true, true, true, true, true, true, true, true, true, true, true] rfl rfl (any_of HT_.out zb9) (fun _ _ _ h => h) (Or.inl ⟨by rfl, ?_⟩) ?_ ?_
                  rotate_left
                  · intro w'
                    go_simp
                    first | with_reducible rfl | (rw [if_neg zb1])
                  rotate_left
                  · simp only [Act.put, List.setIfInBounds_toArray, List.set_cons_zero, List.set_cons_succ, i64_w, i32_w]
                    rfl
                  refine done_ (done_of HT_.out zb9) ?_
                  try go_wp2
                  go_roundg k1
                  case measure => have := HK1.out; omega
                  case rel => exact ⟨(wrap64 (x41_1 + 1)), zb4, H', ⟨by have := HK1.out; omega⟩, ⟨by (with_reducible repeat (first | refine blk_drewN ?_ _ | refine blk_drew ?_ | refine blk_alloc ?_ _)); exact BK159.out⟩, ⟨by (with_reducible repeat (first | refine blk_drewN ?_ _ | refine blk_drew ?_ | refine blk_alloc ?_ _)); exact BK160.out⟩, ⟨by repeat (first | (with_reducible first | exact HB.out | apply below_alloc | apply pw_below_drewN | apply below_drew1 | refine below_set ?_ GE159.out | refine below_set ?_ GE160.out | refine below_set ?_ GE162.out) | exact HB.out)⟩⟩
                · rw [if_neg c23] at H
                  have c23b0 : (t165.toList == t166.toList) = false := beq_eq_false_iff_ne.mpr c23
                  have c23b1 : (t165.toList != t166.toList) = true := bne_iff_ne.mpr c23
                  obtain rfl := Option.some.inj H
                  have p161 : 0 ≤ (x41_1 : Int) := of_decide_eq_true zb3
                  have q161 : x41_1 < (l0_2.length : Int) := of_decide_eq_true zb3
                  obtain ⟨ad161, e161, hx161_0, hx161_1⟩ := at_T50 HR0_2.out x41_1 p161 q161
                  cases e161
                  replace hx161_0 := (HB.out.cell (World.block_lt_of_cell? w _ hx161_0)).trans hx161_0
                  replace hx161_1 := (HB.out.cell (World.block_lt_of_cell? w _ hx161_1)).trans hx161_1
                  replace p161 := eq_true p161
                  replace q161 := eq_true q161
                  try go_wp2_with (first | ((with_reducible refine gate_dst (N := 8) rfl ?_); refine box_event ?hg (N := 8) ?hd (cs := #[.string (⟨#[]⟩ : ByteArray), .string (⟨#[]⟩ : ByteArray)]) (t := 50) ?hr ?_; (case hd => rfl); (case hg => rfl); (case hr => first | (go_simp; done) | (go_simp; rfl)); intro gb162 hg w34 hbox hb; have n0_ := Aside0.mk (blk_below (g := gb159) (o := .cells #[.string a0_0, .string a0_1, .slice (some ad161) l0_2.length c0_2] 40 (0, 0)) zb10 hb); have n1_ := Aside0.mk (blk_below (g := gb160) (o := .cells #[.string a1_0, .string a1_1, .slice A1_2 l1_2.length c1_2] 40 (0, 0)) zb12 hb); have n2_ := Aside0.mk (below_step zb8 hb); have n3_ := Aside0.mk (hbox); have n4_ := Aside0.mk ((by rw [hg]; exact (below_size zb8) : w.heap.size ≤ gb162)); have n5_ := Aside0.mk ((by rw [hg]; exact (below_size zb8) : w.heap.size ≤ gb162)); have n6_ := Aside0.mk ((by rw [hg]; exact Nat.ne_of_lt (blk_lt (g := gb159) (o := .cells #[.string a0_0, .string a0_1, .slice (some ad161) l0_2.length c0_2] 40 (0, 0)) zb10) : gb159 ≠ gb162)); have n7_ := Aside0.mk ((by rw [hg]; exact Nat.ne_of_gt (blk_lt (g := gb159) (o := .cells #[.string a0_0, .string a0_1, .slice (some ad161) l0_2.length c0_2] 40 (0, 0)) zb10) : gb162 ≠ gb159)); have n8_ := Aside0.mk ((by rw [hg]; exact Nat.ne_of_lt (blk_lt (g := gb160) (o := .cells #[.string a1_0, .string a1_1, .slice A1_2 l1_2.length c1_2] 40 (0, 0)) zb12) : gb160 ≠ gb162)); have n9_ := Aside0.mk ((by rw [hg]; exact Nat.ne_of_gt (blk_lt (g := gb160) (o := .cells #[.string a1_0, .string a1_1, .slice A1_2 l1_2.length c1_2] 40 (0, 0)) zb12) : gb162 ≠ gb160)); clear BK159; clear BK160; clear HB; have BK159 := n0_; have BK160 := n1_; have HB := n2_; have BK162 := n3_; have GW162 := n4_; have GE162 := n5_; have NB159_162 := n6_; have NB162_159 := n7_; have NB160_162 := n8_; have NB162_160 := n9_; clear n0_ n1_ n2_ n3_ n4_ n5_ n6_ n7_ n8_ n9_; clear hb hbox hg; have hnb35 := NB162_159.out; have hnc35 := NB159_162.out; have hnb36 := NB162_160.out; have hnc36 := NB160_162.out; have hcz37_0 : w34.cell? ⟨gb162, 0, none⟩ = some (.string (⟨#[]⟩ : ByteArray)) := (blk_cell BK162.out 0).trans rfl; have hcz37_1 : w34.cell? ⟨gb162, 1, none⟩ = some (.string (⟨#[]⟩ : ByteArray)) := (blk_cell BK162.out 1).trans rfl; have hfz37_0 := blk_frozen BK162.out 0; have hfz37_1 := blk_frozen BK162.out 1; have hnb38 := NB160_159.out; have hnc38 := NB159_160.out; have hcz39_0 : w34.cell? ⟨gb160, 0, none⟩ = some (.string a1_0) := (blk_cell BK160.out 0).trans rfl; have hcz39_1 : w34.cell? ⟨gb160, 1, none⟩ = some (.string a1_1) := (blk_cell BK160.out 1).trans rfl; have hcz39_2 : w34.cell? ⟨gb160, 2, none⟩ = some (.slice A1_2 l1_2.length c1_2) := (blk_cell BK160.out 2).trans rfl; have hfz39_0 := blk_frozen BK160.out 0; have hfz39_1 := blk_frozen BK160.out 1; have hfz39_2 := blk_frozen BK160.out 2) | ((with_reducible refine gate_callee (f := 31) rfl ?_); refine goesL_ (some 49) rfl rfl Tryz.func31 zb9 rfl #[.agg #[.string a1_0, .string a1_1, .slice A1_2 l1_2.length c1_2], .string ((rd_T50 l0_2 x41_1).f0)] rfl zb2 ?_; (with_reducible refine (media_Param.calls k1 a1_0 a1_1 _ _ l1_2 ((rd_T50 l0_2 x41_1).f0) t163 true _ ?side1 ?side2 A10.out).mono ?_); (case side1 => exact Kd.C_below HR1_2.out zb7); (case side2 => exact HC1_2.out); rintro e w40 ⟨rfl, hb⟩; refine ⟨_, rfl, ?_⟩; have n0_ := Aside0.mk (blk_below (g := gb159) (o := .cells #[.string a0_0, .string a0_1, .slice (some ad161) l0_2.length c0_2] 40 (0, 0)) zb22 hb); have n1_ := Aside0.mk (blk_below (g := gb160) (o := .cells #[.string a1_0, .string a1_1, .slice A1_2 l1_2.length c1_2] 40 (0, 0)) zb21 hb); have n2_ := Aside0.mk (blk_below (g := gb162) (o := .cells #[.string ((rd_T50 l0_2 x41_1).f0), .string ((rd_T50 l0_2 x41_1).f1)] 50 (0, 0)) zb18 hb); have n3_ := Aside0.mk (below_step zb7 hb); clear BK159; clear BK160; clear BK162; clear HB; have BK159 := n0_; have BK160 := n1_; have BK162 := n2_; have HB := n3_; clear n0_ n1_ n2_ n3_; (try clear hb); (try clear hb2); (try clear hk); (try clear hi)))
                  have n0_ := Aside0.mk (blk_drew BK159.out)
                  have n1_ := Aside0.mk (blk_drew BK160.out)
                  have n2_ := Aside0.mk (blk_drew BK162.out)
                  have n3_ := Aside0.mk (below_drew1 HB.out)
                  clear BK159
                  clear BK160
                  clear BK162
                  clear HB
                  have BK159 := n0_
                  have BK160 := n1_
                  have BK162 := n2_
                  have HB := n3_
                  clear n0_ n1_ n2_ n3_
                  refine start_ (n := 15) (S := fun w' => w'.cell? ⟨gb162, 0, none⟩ = some (.string ((rd_T50 l0_2 x41_1).f0)) ∧ w'.cell? ⟨gb162, 1, none⟩ = some (.string ((rd_T50 l0_2 x41_1).f1))) (ds := []) #[false, false, false, false, false, false, false, false, false, false, false, false, false, false, false] zb9 rfl rfl ⟨(blk_cell BK162.out 0).trans rfl, (blk_cell BK162.out 1).trans rfl⟩ (fun hHeld => ?_); refine with_tabW media_FitsP.tab11 media_FitsP.bits11 (fun HT_ HW_ => ?_)
                  generalize w40.drew = w41 at BK159 BK160 BK162 HB hHeld ⊢
                  refine pure_ (i := 0) (N := some 52) (v := ?_) (a' := ?_) #[true, false, false, false, false, false, false, false, false, false, false, false, false, false, false] rfl rfl (any_of HT_.out zb9) (fun _ _ _ h => h) (Or.inl ⟨by rfl, ?_⟩) ?_ ?_
                  rotate_left
                  · intro w'
                    go_simp
                    first | with_reducible rfl | (rw [if_neg zb1])
                  rotate_left
                  · simp only [Act.put, List.setIfInBounds_toArray, List.set_cons_zero, List.set_cons_succ, i64_w, i32_w]
                    rfl
                  refine take_ (i := 1) (N := some 53) (v := ?_) (a' := ?_) #[true, true, false, false, false, false, false, false, false, false, false, false, false, false, false] rfl rfl (take_ofW HT_.out HW_.out zb9) (fun _ _ _ h => h) (Or.inl ⟨by rfl, ?_⟩) hHeld ?_ ?_
                  rotate_left
                  · rintro w' ⟨s0, s1⟩
                    go_simp
                    first | with_reducible rfl | (rw [if_neg zb1])
                  rotate_left
                  · simp only [Act.put, List.setIfInBounds_toArray, List.set_cons_zero, List.set_cons_succ, i64_w, i32_w]
                    rfl
                  refine pure_ (i := 2) (N := some 54) (v := ?_) (a' := ?_) #[true, true, true, false, false, false, false, false, false, false, false, false, false, false, false] rfl rfl (any_of HT_.out zb9) (fun _ _ _ h => h) (Or.inl ⟨by rfl, ?_⟩) ?_ ?_
                  rotate_left
                  · intro w'
                    go_simp
                    first | with_reducible rfl | (rw [if_neg zb1])
                  rotate_left
                  · simp only [Act.put, List.setIfInBounds_toArray, List.set_cons_zero, List.set_cons_succ, i64_w, i32_w]
                    rfl
                  refine pure_ (i := 3) (N := some 55) (v := ?_) (a' := ?_) #[true, true, true, true, false, false, false, false, false, false, false, false, false, false, false] rfl rfl (any_of HT_.out zb9) (fun _ _ _ h => h) (Or.inl ⟨by rfl, ?_⟩) ?_ ?_
                  rotate_left
                  · intro w'
                    go_simp
                    first | with_reducible rfl | (rw [if_neg zb1])
                  rotate_left
                  · simp only [Act.put, List.setIfInBounds_toArray, List.set_cons_zero, List.set_cons_succ, i64_w, i32_w]
                    rfl
                  refine pure_ (i := 4) (N := some 56) (v := ?_) (a' := ?_) #[true, true, true, true, true, false, false, false, false, false, false, false, false, false, false] rfl rfl (any_of HT_.out zb9) (fun _ _ _ h => h) (Or.inl ⟨by rfl, ?_⟩) ?_ ?_
                  rotate_left
                  · intro w'
                    go_simp
                    first | with_reducible rfl | (rw [if_neg zb1])
                  rotate_left
                  · simp only [Act.put, List.setIfInBounds_toArray, List.set_cons_zero, List.set_cons_succ, i64_w, i32_w]
                    rfl
                  refine pure_ (i := 5) (N := some 57) (v := ?_) (a' := ?_) #[true, true, true, true, true, true, false, false, false, false, false, false, false, false, false] rfl rfl (any_of HT_.out zb9) (fun _ _ _ h => h) (Or.inl ⟨by rfl, ?_⟩) ?_ ?_
                  rotate_left
                  · intro w'
                    go_simp
                    first | with_reducible rfl | (rw [if_neg zb1])
                  rotate_left
                  · simp only [Act.put, List.setIfInBounds_toArray, List.set_cons_zero, List.set_cons_succ, i64_w, i32_w]
                    rfl
                  refine pure_ (i := 6) (N := some 58) (v := ?_) (a' := ?_) #[true, true, true, true, true, true, true, false, false, false, false, false, false, false, false] rfl rfl (any_of HT_.out zb9) (fun _ _ _ h => h) (Or.inl ⟨by rfl, ?_⟩) ?_ ?_
                  rotate_left
                  · intro w'
                    go_simp
                    first | with_reducible rfl | (rw [if_neg zb1])
                  rotate_left
                  · simp only [Act.put, List.setIfInBounds_toArray, List.set_cons_zero, List.set_cons_succ, i64_w, i32_w]
                    rfl
                  refine pure_ (i := 7) (N := some 59) (v := ?_) (a' := ?_) #[true, true, true, true, true, true, true, true, false, false, false, false, false, false, false] rfl rfl (any_of HT_.out zb9) (fun _ _ _ h => h) (Or.inl ⟨by rfl, ?_⟩) ?_ ?_
                  rotate_left
                  · intro w'
                    go_simp
                    first | with_reducible rfl | (rw [if_neg zb1])
                  rotate_left
                  · simp only [Act.put, List.setIfInBounds_toArray, List.set_cons_zero, List.set_cons_succ, i64_w, i32_w]
                    rfl
                  refine pure_ (i := 9) (N := some 61) (v := ?_) (a' := ?_) #[true, true, true, true, true, true, true, true, false, true, false, false, false, false, false] rfl rfl (any_of HT_.out zb9) (fun _ _ _ h => h) (Or.inl ⟨by rfl, ?_⟩) ?_ ?_
                  rotate_left
                  · intro w'
                    go_simp
                    first | with_reducible rfl | (rw [if_neg zb1])
                  rotate_left
                  · simp only [Act.put, List.setIfInBounds_toArray, List.set_cons_zero, List.set_cons_succ, i64_w, i32_w]
                    rfl
                  refine take_ (i := 10) (N := some 62) (v := ?_) (a' := ?_) #[true, true, true, true, true, true, true, true, false, true, true, false, false, false, false] rfl rfl (take_ofW HT_.out HW_.out zb9) (fun _ _ _ h => h) (Or.inl ⟨by rfl, ?_⟩) hHeld ?_ ?_
                  rotate_left
                  · rintro w' ⟨s0, s1⟩
                    go_simp
                    first | with_reducible rfl | (rw [if_neg zb1])
                  rotate_left
                  · simp only [Act.put, List.setIfInBounds_toArray, List.set_cons_zero, List.set_cons_succ, i64_w, i32_w]
                    rfl
                  refine one_ (i := 8) (N := some 60) #[true, true, true, true, true, true, true, true, true, true, true, false, false, false, false] rfl rfl (one_of HT_.out zb9) zb47 (fun K hK => ?_)
                  refine goes_ Tryz.func55 zb9 rfl #[.string t163] (by rfl) rfl rfl zb2 ?_
                  with_reducible refine (media_Small.calls t163 t165 _ A21.out).mono ?_
                  rintro e w42 ⟨rfl, hb⟩
                  refine ⟨_, rfl, ?_⟩
                  have n0_ := Aside0.mk (blk_below (g := gb159) (o := .cells #[.string a0_0, .string a0_1, .slice (some ad161) l0_2.length c0_2] 40 (0, 0)) zb10 hb)
                  have n1_ := Aside0.mk (blk_below (g := gb160) (o := .cells #[.string a1_0, .string a1_1, .slice A1_2 l1_2.length c1_2] 40 (0, 0)) zb12 hb)
                  have n2_ := Aside0.mk (blk_below (g := gb162) (o := .cells #[.string ((rd_T50 l0_2 x41_1).f0), .string ((rd_T50 l0_2 x41_1).f1)] 50 (0, 0)) zb48 hb)
                  have n3_ := Aside0.mk (below_step zb7 hb)
                  clear BK159
                  clear BK160
                  clear BK162
                  clear HB
                  have BK159 := n0_
                  have BK160 := n1_
                  have BK162 := n2_
                  have HB := n3_
                  clear n0_ n1_ n2_ n3_
                  (try clear hb)
                  (try clear hb2)
                  (try clear hk)
                  (try clear hi)
                  refine hK.out _ _ ⟨(blk_cell BK162.out 0).trans rfl, (blk_cell BK162.out 1).trans rfl⟩ (fun hHeld => ?_)
                  clear hK K
                  refine norm_ (a' := ?_) ?_ ?_
                  rotate_left
                  · show Act.put _ (some 60) _ = _
                    simp only [Act.put, List.setIfInBounds_toArray, List.set_cons_zero, List.set_cons_succ, i64_w, i32_w]
                    rfl
                  refine one_ (i := 11) (N := some 63) #[true, true, true, true, true, true, true, true, true, true, true, true, false, false, false] rfl rfl (one_of HT_.out zb9) zb47 (fun K hK => ?_)
                  refine goes_ Tryz.func55 zb9 rfl #[.string ((rd_T50 l0_2 x41_1).f1)] (by rfl) rfl rfl zb2 ?_
                  with_reducible refine (media_Small.calls ((rd_T50 l0_2 x41_1).f1) t166 _ A22.out).mono ?_
                  rintro e w43 ⟨rfl, hb⟩
                  refine ⟨_, rfl, ?_⟩
                  have n0_ := Aside0.mk (blk_below (g := gb159) (o := .cells #[.string a0_0, .string a0_1, .slice (some ad161) l0_2.length c0_2] 40 (0, 0)) zb10 hb)
                  have n1_ := Aside0.mk (blk_below (g := gb160) (o := .cells #[.string a1_0, .string a1_1, .slice A1_2 l1_2.length c1_2] 40 (0, 0)) zb12 hb)
                  have n2_ := Aside0.mk (blk_below (g := gb162) (o := .cells #[.string ((rd_T50 l0_2 x41_1).f0), .string ((rd_T50 l0_2 x41_1).f1)] 50 (0, 0)) zb48 hb)
                  have n3_ := Aside0.mk (below_step zb7 hb)
                  clear BK159
                  clear BK160
                  clear BK162
                  clear HB
                  have BK159 := n0_
                  have BK160 := n1_
                  have BK162 := n2_
                  have HB := n3_
                  clear n0_ n1_ n2_ n3_
                  (try clear hb)
                  (try clear hb2)
                  (try clear hk)
                  (try clear hi)
                  refine hK.out _ _ ⟨(blk_cell BK162.out 0).trans rfl, (blk_cell BK162.out 1).trans rfl⟩ (fun hHeld => ?_)
                  clear hK K
                  refine norm_ (a' := ?_) ?_ ?_
                  rotate_left
                  · show Act.put _ (some 63) _ = _
                    simp only [Act.put, List.setIfInBounds_toArray, List.set_cons_zero, List.set_cons_succ, i64_w, i32_w]
                    rfl
                  refine pure_ (i := 12) (N := some 64) (v := ?_) (a' := ?_) #[true, true, true, true, true, true, true, true, true, true, true, true, true, false, false] rfl rfl (any_of HT_.out zb9) (fun _ _ _ h => h) (Or.inl ⟨by rfl, ?_⟩) ?_ ?_
                  rotate_left
                  · intro w'
                    go_simp
                    first | with_reducible rfl | (rw [if_neg zb1])
                  rotate_left
                  · simp only [Act.put, List.setIfInBounds_toArray, List.set_cons_zero, List.set_cons_succ, i64_w, i32_w]
                    rfl
                  refine pure_ (i := 13) (N := some 65) (v := ?_) (a' := ?_) #[true, true, true, true, true, true, true, true, true, true, true, true, true, true, false] rfl rfl (any_of HT_.out zb9) (fun _ _ _ h => h) (Or.inl ⟨by rfl, ?_⟩) ?_ ?_
                  rotate_left
                  · intro w'
                    go_simp
                    first | with_reducible rfl | (rw [if_neg zb1])
                  rotate_left
                  · simp only [Act.put, List.setIfInBounds_toArray, List.set_cons_zero, List.set_cons_succ, i64_w, i32_w]
                    rfl
                  refine pure_ (i := 14) (N := some 66) (v := ?_) (a' := ?_) #[true, true, true, true, true, true, true, true, true, true, true, true, true, true, true] rfl rfl (any_of HT_.out zb9) (fun _ _ _ h => h) (Or.inl ⟨by rfl, ?_⟩) ?_ ?_
                  rotate_left
                  · intro w'
                    go_simp
                    first | with_reducible rfl | (rw [if_neg zb1])
                  rotate_left
                  · simp only [Act.put, List.setIfInBounds_toArray, List.set_cons_zero, List.set_cons_succ, i64_w, i32_w]
                    rfl
                  refine done_ (done_of HT_.out zb9) ?_
                  try go_wp2
                  go_ret
                  exact ⟨zb6, zb7⟩
              · replace c20 := Bool.eq_false_iff.mpr c20
                subst c20
                replace H : (some false) = some r := by rw [if_neg (show ¬ (false = true) by decide)] at H; exact H
                obtain rfl := Option.some.inj H
                have p161 : 0 ≤ (x41_1 : Int) := of_decide_eq_true zb3
                have q161 : x41_1 < (l0_2.length : Int) := of_decide_eq_true zb3
                obtain ⟨ad161, e161, hx161_0, hx161_1⟩ := at_T50 HR0_2.out x41_1 p161 q161
                cases e161
                replace hx161_0 := (HB.out.cell (World.block_lt_of_cell? w _ hx161_0)).trans hx161_0
                replace hx161_1 := (HB.out.cell (World.block_lt_of_cell? w _ hx161_1)).trans hx161_1
                replace p161 := eq_true p161
                replace q161 := eq_true q161
                try go_wp2_with (first | ((with_reducible refine gate_dst (N := 8) rfl ?_); refine box_event ?hg (N := 8) ?hd (cs := #[.string (⟨#[]⟩ : ByteArray), .string (⟨#[]⟩ : ByteArray)]) (t := 50) ?hr ?_; (case hd => rfl); (case hg => rfl); (case hr => first | (go_simp; done) | (go_simp; rfl)); intro gb162 hg w44 hbox hb; have n0_ := Aside0.mk (blk_below (g := gb159) (o := .cells #[.string a0_0, .string a0_1, .slice (some ad161) l0_2.length c0_2] 40 (0, 0)) zb10 hb); have n1_ := Aside0.mk (blk_below (g := gb160) (o := .cells #[.string a1_0, .string a1_1, .slice A1_2 l1_2.length c1_2] 40 (0, 0)) zb12 hb); have n2_ := Aside0.mk (below_step zb8 hb); have n3_ := Aside0.mk (hbox); have n4_ := Aside0.mk ((by rw [hg]; exact (below_size zb8) : w.heap.size ≤ gb162)); have n5_ := Aside0.mk ((by rw [hg]; exact (below_size zb8) : w.heap.size ≤ gb162)); have n6_ := Aside0.mk ((by rw [hg]; exact Nat.ne_of_lt (blk_lt (g := gb159) (o := .cells #[.string a0_0, .string a0_1, .slice (some ad161) l0_2.length c0_2] 40 (0, 0)) zb10) : gb159 ≠ gb162)); have n7_ := Aside0.mk ((by rw [hg]; exact Nat.ne_of_gt (blk_lt (g := gb159) (o := .cells #[.string a0_0, .string a0_1, .slice (some ad161) l0_2.length c0_2] 40 (0, 0)) zb10) : gb162 ≠ gb159)); have n8_ := Aside0.mk ((by rw [hg]; exact Nat.ne_of_lt (blk_lt (g := gb160) (o := .cells #[.string a1_0, .string a1_1, .slice A1_2 l1_2.length c1_2] 40 (0, 0)) zb12) : gb160 ≠ gb162)); have n9_ := Aside0.mk ((by rw [hg]; exact Nat.ne_of_gt (blk_lt (g := gb160) (o := .cells #[.string a1_0, .string a1_1, .slice A1_2 l1_2.length c1_2] 40 (0, 0)) zb12) : gb162 ≠ gb160)); clear BK159; clear BK160; clear HB; have BK159 := n0_; have BK160 := n1_; have HB := n2_; have BK162 := n3_; have GW162 := n4_; have GE162 := n5_; have NB159_162 := n6_; have NB162_159 := n7_; have NB160_162 := n8_; have NB162_160 := n9_; clear n0_ n1_ n2_ n3_ n4_ n5_ n6_ n7_ n8_ n9_; clear hb hbox hg; have hnb45 := NB162_159.out; have hnc45 := NB159_162.out; have hnb46 := NB162_160.out; have hnc46 := NB160_162.out; have hcz47_0 : w44.cell? ⟨gb162, 0, none⟩ = some (.string (⟨#[]⟩ : ByteArray)) := (blk_cell BK162.out 0).trans rfl; have hcz47_1 : w44.cell? ⟨gb162, 1, none⟩ = some (.string (⟨#[]⟩ : ByteArray)) := (blk_cell BK162.out 1).trans rfl; have hfz47_0 := blk_frozen BK162.out 0; have hfz47_1 := blk_frozen BK162.out 1; have hnb48 := NB160_159.out; have hnc48 := NB159_160.out; have hcz49_0 : w44.cell? ⟨gb160, 0, none⟩ = some (.string a1_0) := (blk_cell BK160.out 0).trans rfl; have hcz49_1 : w44.cell? ⟨gb160, 1, none⟩ = some (.string a1_1) := (blk_cell BK160.out 1).trans rfl; have hcz49_2 : w44.cell? ⟨gb160, 2, none⟩ = some (.slice A1_2 l1_2.length c1_2) := (blk_cell BK160.out 2).trans rfl; have hfz49_0 := blk_frozen BK160.out 0; have hfz49_1 := blk_frozen BK160.out 1; have hfz49_2 := blk_frozen BK160.out 2) | ((with_reducible refine gate_callee (f := 31) rfl ?_); refine goesL_ (some 49) rfl rfl Tryz.func31 zb9 rfl #[.agg #[.string a1_0, .string a1_1, .slice A1_2 l1_2.length c1_2], .string ((rd_T50 l0_2 x41_1).f0)] rfl zb2 ?_; (with_reducible refine (media_Param.calls k1 a1_0 a1_1 _ _ l1_2 ((rd_T50 l0_2 x41_1).f0) t163 false _ ?side1 ?side2 A10.out).mono ?_); (case side1 => exact Kd.C_below HR1_2.out zb7); (case side2 => exact HC1_2.out); rintro e w50 ⟨rfl, hb⟩; refine ⟨_, rfl, ?_⟩; have n0_ := Aside0.mk (blk_below (g := gb159) (o := .cells #[.string a0_0, .string a0_1, .slice (some ad161) l0_2.length c0_2] 40 (0, 0)) zb22 hb); have n1_ := Aside0.mk (blk_below (g := gb160) (o := .cells #[.string a1_0, .string a1_1, .slice A1_2 l1_2.length c1_2] 40 (0, 0)) zb21 hb); have n2_ := Aside0.mk (blk_below (g := gb162) (o := .cells #[.string ((rd_T50 l0_2 x41_1).f0), .string ((rd_T50 l0_2 x41_1).f1)] 50 (0, 0)) zb18 hb); have n3_ := Aside0.mk (below_step zb7 hb); clear BK159; clear BK160; clear BK162; clear HB; have BK159 := n0_; have BK160 := n1_; have BK162 := n2_; have HB := n3_; clear n0_ n1_ n2_ n3_; (try clear hb); (try clear hb2); (try clear hk); (try clear hi)))
                have n0_ := Aside0.mk (blk_drew BK159.out)
                have n1_ := Aside0.mk (blk_drew BK160.out)
                have n2_ := Aside0.mk (blk_drew BK162.out)
                have n3_ := Aside0.mk (below_drew1 HB.out)
                clear BK159
                clear BK160
                clear BK162
                clear HB
                have BK159 := n0_
                have BK160 := n1_
                have BK162 := n2_
                have HB := n3_
                clear n0_ n1_ n2_ n3_
                refine start_ (n := 15) (S := fun w' => w'.cell? ⟨gb162, 0, none⟩ = some (.string ((rd_T50 l0_2 x41_1).f0)) ∧ w'.cell? ⟨gb162, 1, none⟩ = some (.string ((rd_T50 l0_2 x41_1).f1))) (ds := []) #[false, false, false, false, false, false, false, false, false, false, false, false, false, false, false] zb9 rfl rfl ⟨(blk_cell BK162.out 0).trans rfl, (blk_cell BK162.out 1).trans rfl⟩ (fun hHeld => ?_); refine with_tabW media_FitsP.tab11 media_FitsP.bits11 (fun HT_ HW_ => ?_)
                generalize w50.drew = w51 at BK159 BK160 BK162 HB hHeld ⊢
                refine pure_ (i := 0) (N := some 52) (v := ?_) (a' := ?_) #[true, false, false, false, false, false, false, false, false, false, false, false, false, false, false] rfl rfl (any_of HT_.out zb9) (fun _ _ _ h => h) (Or.inl ⟨by rfl, ?_⟩) ?_ ?_
                rotate_left
                · intro w'
                  go_simp
                  first | with_reducible rfl | (rw [if_neg zb1])
                rotate_left
                · simp only [Act.put, List.setIfInBounds_toArray, List.set_cons_zero, List.set_cons_succ, i64_w, i32_w]
                  rfl
                refine take_ (i := 1) (N := some 53) (v := ?_) (a' := ?_) #[true, true, false, false, false, false, false, false, false, false, false, false, false, false, false] rfl rfl (take_ofW HT_.out HW_.out zb9) (fun _ _ _ h => h) (Or.inl ⟨by rfl, ?_⟩) hHeld ?_ ?_
                rotate_left
                · rintro w' ⟨s0, s1⟩
                  go_simp
                  first | with_reducible rfl | (rw [if_neg zb1])
                rotate_left
                · simp only [Act.put, List.setIfInBounds_toArray, List.set_cons_zero, List.set_cons_succ, i64_w, i32_w]
                  rfl
                refine pure_ (i := 2) (N := some 54) (v := ?_) (a' := ?_) #[true, true, true, false, false, false, false, false, false, false, false, false, false, false, false] rfl rfl (any_of HT_.out zb9) (fun _ _ _ h => h) (Or.inl ⟨by rfl, ?_⟩) ?_ ?_
                rotate_left
                · intro w'
                  go_simp
                  first | with_reducible rfl | (rw [if_neg zb1])
                rotate_left
                · simp only [Act.put, List.setIfInBounds_toArray, List.set_cons_zero, List.set_cons_succ, i64_w, i32_w]
                  rfl
                refine pure_ (i := 3) (N := some 55) (v := ?_) (a' := ?_) #[true, true, true, true, false, false, false, false, false, false, false, false, false, false, false] rfl rfl (any_of HT_.out zb9) (fun _ _ _ h => h) (Or.inl ⟨by rfl, ?_⟩) ?_ ?_
                rotate_left
                · intro w'
                  go_simp
                  first | with_reducible rfl | (rw [if_neg zb1])
                rotate_left
                · simp only [Act.put, List.setIfInBounds_toArray, List.set_cons_zero, List.set_cons_succ, i64_w, i32_w]
                  rfl
                refine pure_ (i := 4) (N := some 56) (v := ?_) (a' := ?_) #[true, true, true, true, true, false, false, false, false, false, false, false, false, false, false] rfl rfl (any_of HT_.out zb9) (fun _ _ _ h => h) (Or.inl ⟨by rfl, ?_⟩) ?_ ?_
                rotate_left
                · intro w'
                  go_simp
                  first | with_reducible rfl | (rw [if_neg zb1])
                rotate_left
                · simp only [Act.put, List.setIfInBounds_toArray, List.set_cons_zero, List.set_cons_succ, i64_w, i32_w]
                  rfl
                refine pure_ (i := 5) (N := some 57) (v := ?_) (a' := ?_) #[true, true, true, true, true, true, false, false, false, false, false, false, false, false, false] rfl rfl (any_of HT_.out zb9) (fun _ _ _ h => h) (Or.inl ⟨by rfl, ?_⟩) ?_ ?_
                rotate_left
                · intro w'
                  go_simp
                  first | with_reducible rfl | (rw [if_neg zb1])
                rotate_left
                · simp only [Act.put, List.setIfInBounds_toArray, List.set_cons_zero, List.set_cons_succ, i64_w, i32_w]
                  rfl
                refine pure_ (i := 6) (N := some 58) (v := ?_) (a' := ?_) #[true, true, true, true, true, true, true, false, false, false, false, false, false, false, false] rfl rfl (any_of HT_.out zb9) (fun _ _ _ h => h) (Or.inl ⟨by rfl, ?_⟩) ?_ ?_
                rotate_left
                · intro w'
                  go_simp
                  first | with_reducible rfl | (rw [if_neg zb1])
                rotate_left
                · simp only [Act.put, List.setIfInBounds_toArray, List.set_cons_zero, List.set_cons_succ, i64_w, i32_w]
                  rfl
                refine pure_ (i := 7) (N := some 59) (v := undef) (a' := ?_) #[true, true, true, true, true, true, true, true, false, false, false, false, false, false, false] rfl rfl (any_of HT_.out zb9) (fun _ _ _ h => h) (Or.inr ⟨by rfl, rfl⟩) ?_ ?_
                rotate_left
                · simp only [Act.put, List.setIfInBounds_toArray, List.set_cons_zero, List.set_cons_succ, i64_w, i32_w]
                  rfl
                refine pure_ (i := 8) (N := some 60) (v := undef) (a' := ?_) #[true, true, true, true, true, true, true, true, true, false, false, false, false, false, false] rfl rfl (any_of HT_.out zb9) (fun _ _ _ h => h) (Or.inr ⟨by rfl, rfl⟩) ?_ ?_
                rotate_left
                · simp only [Act.put, List.setIfInBounds_toArray, List.set_cons_zero, List.set_cons_succ, i64_w, i32_w]
                  rfl
                refine pure_ (i := 9) (N := some 61) (v := undef) (a' := ?_) #[true, true, true, true, true, true, true, true, true, true, false, false, false, false, false] rfl rfl (any_of HT_.out zb9) (fun _ _ _ h => h) (Or.inr ⟨by rfl, rfl⟩) ?_ ?_
                rotate_left
                · simp only [Act.put, List.setIfInBounds_toArray, List.set_cons_zero, List.set_cons_succ, i64_w, i32_w]
                  rfl
                refine pure_ (i := 10) (N := some 62) (v := undef) (a' := ?_) #[true, true, true, true, true, true, true, true, true, true, true, false, false, false, false] rfl rfl (any_of HT_.out zb9) (fun _ _ _ h => h) (Or.inr ⟨by rfl, rfl⟩) ?_ ?_
                rotate_left
                · simp only [Act.put, List.setIfInBounds_toArray, List.set_cons_zero, List.set_cons_succ, i64_w, i32_w]
                  rfl
                refine pure_ (i := 11) (N := some 63) (v := undef) (a' := ?_) #[true, true, true, true, true, true, true, true, true, true, true, true, false, false, false] rfl rfl (any_of HT_.out zb9) (fun _ _ _ h => h) (Or.inr ⟨by rfl, rfl⟩) ?_ ?_
                rotate_left
                · simp only [Act.put, List.setIfInBounds_toArray, List.set_cons_zero, List.set_cons_succ, i64_w, i32_w]
                  rfl
                refine pure_ (i := 12) (N := some 64) (v := undef) (a' := ?_) #[true, true, true, true, true, true, true, true, true, true, true, true, true, false, false] rfl rfl (any_of HT_.out zb9) (fun _ _ _ h => h) (Or.inr ⟨by rfl, rfl⟩) ?_ ?_
                rotate_left
                · simp only [Act.put, List.setIfInBounds_toArray, List.set_cons_zero, List.set_cons_succ, i64_w, i32_w]
                  rfl
                refine pure_ (i := 13) (N := some 65) (v := ?_) (a' := ?_) #[true, true, true, true, true, true, true, true, true, true, true, true, true, true, false] rfl rfl (any_of HT_.out zb9) (fun _ _ _ h => h) (Or.inl ⟨by rfl, ?_⟩) ?_ ?_
                rotate_left
                · intro w'
                  go_simp
                  first | with_reducible rfl | (rw [if_neg zb1])
                rotate_left
                · simp only [Act.put, List.setIfInBounds_toArray, List.set_cons_zero, List.set_cons_succ, i64_w, i32_w]
                  rfl
                refine pure_ (i := 14) (N := some 66) (v := ?_) (a' := ?_) #[true, true, true, true, true, true, true, true, true, true, true, true, true, true, true] rfl rfl (any_of HT_.out zb9) (fun _ _ _ h => h) (Or.inl ⟨by rfl, ?_⟩) ?_ ?_
                rotate_left
                · intro w'
                  go_simp
                  first | with_reducible rfl | (rw [if_neg zb1])
                rotate_left
                · simp only [Act.put, List.setIfInBounds_toArray, List.set_cons_zero, List.set_cons_succ, i64_w, i32_w]
                  rfl
                refine done_ (done_of HT_.out zb9) ?_
                try go_wp2
                go_ret
                exact ⟨zb6, zb7⟩
          · rw [if_neg c9] at H
            exact absurd H zb45
        · rw [if_neg c8] at H
          exact absurd H zb45
      · rw [if_neg c7] at H
        have c7b0 : decide (x41_1 < (l0_2.length : Int)) = false := decide_eq_false c7
        clear c7
        obtain rfl := Option.some.inj H
        go_wp2
        go_ret
        exact ⟨zb6, zb8⟩
end Go.Proofs.YtghfbhobpodoeaaGreatDoor.O
/- SpQb -/
namespace Go.Proofs.YtghfbhobpodoeaaGreatDoor.Sp
open Go Go.RowKit Go.Proofs.YtghfbhobpodoeaaGreatDoorW.PrintWords Go.Proofs.YtghfbhobpodoeaaGreatDoorW.PrintLast Go.Proofs.YtghfbhobpodoeaaGreatDoor.O Go.Proofs.YtghfbhobpodoeaaGreatDoor.P
set_option linter.unusedVariables false
set_option linter.unusedSimpArgs false
def padD (p : L) : L := (p ++ [48, 48, 48]).take 3
def weiL (s : L) : Nat :=
  if ((Lib.cut s [46]).1 ≠ [48] ∧ (Lib.cut s [46]).1 ≠ [49]) ∨ 3 < (Lib.cut s [46]).2.1.length ∨ (Lib.cut s [46]).2.1.all digB = false then nanW
  else if numN 0 ((Lib.cut s [46]).1 ++ padD (Lib.cut s [46]).2.1) > 1000 then nanW else fdiv (numN 0 ((Lib.cut s [46]).1 ++ padD (Lib.cut s [46]).2.1))
theorem dig_eq : (([48, 49, 50, 51, 52, 53, 54, 55, 56, 57] : L).contains · : UInt8 → Bool) = digB := by
  funext c
  obtain ⟨a, rfl⟩ := u8_fin c
  exact dig_all a
theorem trim_dig (s : L) : Lib.trimS s [48, 49, 50, 51, 52, 53, 54, 55, 56, 57] = [] ↔ s.all digB = true := by
  unfold Lib.trimS Lib.trimRightS Lib.trimLeftS
  rw [dig_eq]
  rw [dw_nil, List.all_eq_true]
  constructor
  · intro h x hx
    by_cases hd : s.reverse.dropWhile digB = []
    · exact (dw_nil digB s.reverse).1 hd x (List.mem_reverse.2 hx)
    · obtain ⟨c, r, hc⟩ := List.exists_cons_of_ne_nil hd
      have h1 := dw_head digB s.reverse c r hc
      have h2 := h c (by rw [hc]; simp)
      rw [h1] at h2
      cases h2
  · intro h x hx
    exact h x (List.mem_reverse.1 ((List.dropWhile_sublist digB).subset (List.mem_reverse.1 hx)))
theorem pad_dig (p : L) (h : p.all digB = true) : ∀ c ∈ padD p, digB c = true := by
  intro c hc
  have := List.mem_of_mem_take hc
  rcases List.mem_append.1 this with h1 | h1
  · exact List.all_eq_true.1 h c h1
  · simp at h1
    subst h1
    decide
theorem pad_len (p : L) : (padD p).length = 3 := by unfold padD; rw [List.length_take, List.length_append]; simp
theorem weiF (s : L) (hs : s.length < 4294967281) : quality_Weight.f (mk s) = some (weiL s) := by
  unfold quality_Weight.f
  rw [mk_size, if_pos hs]
  have e1 : (cutF (mk s) (⟨#[46]⟩ : ByteArray)).1 = mk (Lib.cut s [46]).1 := by unfold cutF; rw [mk_data]; rfl
  have e2 : (cutF (mk s) (⟨#[46]⟩ : ByteArray)).2.1 = mk (Lib.cut s [46]).2.1 := by unfold cutF; rw [mk_data]; rfl
  have hb : weiBad (mk s) ↔ (((Lib.cut s [46]).1 ≠ [48] ∧ (Lib.cut s [46]).1 ≠ [49]) ∨ 3 < (Lib.cut s [46]).2.1.length ∨ (Lib.cut s [46]).2.1.all digB = false) := by
    unfold weiBad
    rw [e1, e2, tl_mk, mk_size, mk_data]
    have : digS.data.toList = [48, 49, 50, 51, 52, 53, 54, 55, 56, 57] := rfl
    rw [this, ne_eq (Lib.trimS _ _), trim_dig, Bool.not_eq_true]
  unfold weiL
  by_cases h : weiBad (mk s)
  · rw [if_pos h, if_pos (hb.1 h)]
  · rw [if_neg h, if_neg (fun x => h (hb.2 x))]
    have h' : ¬ _ := fun x => h (hb.2 x)
    have hn : weiN (mk s) = ((numN 0 ((Lib.cut s [46]).1 ++ padD (Lib.cut s [46]).2.1) : Nat) : Int) := by
      unfold weiN
      rw [e1, e2, show (⟨#[48, 48, 48]⟩ : ByteArray) = mk [48, 48, 48] from rfl, mk_append, ext_to, mk_append, mk_data]
      show (atoiF ((Lib.cut s [46]).1 ++ padD (Lib.cut s [46]).2.1)).1 = _
      have hw : (Lib.cut s [46]).1 = [48] ∨ (Lib.cut s [46]).1 = [49] := by
        by_cases a : (Lib.cut s [46]).1 = [48]
        · exact .inl a
        · by_cases b : (Lib.cut s [46]).1 = [49]
          · exact .inr b
          · exact absurd (Or.inl ⟨a, b⟩) h'
      have hd : (Lib.cut s [46]).2.1.all digB = true := by
        cases x : (Lib.cut s [46]).2.1.all digB
        · exact absurd (Or.inr (Or.inr x)) h'
        · rfl
      rw [atoi_num _ (by rcases hw with a | a <;> rw [a] <;> simp) (fun c hc => by
        rcases List.mem_append.1 hc with h1 | h1
        · rcases hw with a | a <;> rw [a] at h1 <;> simp at h1 <;> subst h1 <;> decide
        · exact pad_dig _ hd c h1) (by rw [List.length_append, pad_len]; rcases hw with a | a <;> rw [a] <;> simp)]
    rw [hn]
    by_cases hbig : numN 0 ((Lib.cut s [46]).1 ++ padD (Lib.cut s [46]).2.1) > 1000
    · rw [if_pos (by omega), if_pos hbig]
    · rw [if_neg (by omega), if_neg hbig, if_pos (by omega)]
      rfl
def param (ps : List (L × L)) (n : L) : Option L := (ps.find? fun p => p.1 == n).map (·.2)
theorem rdp (l : List (L × L)) (i : Nat) (p : L × L) (h : l[i]? = some p) : rd_T50 (pairsB l) (i : Int) = ⟨mk p.1, mk p.2⟩ := by
  unfold rd_T50 pairsB
  rw [Int.toNat_natCast, List.getD_eq_getElem?_getD, List.getElem?_map, h]
  rfl
theorem w1_ (i : Nat) (h : i ≤ 1000000000000) : wrap64 ((i : Int) + 1) = ((i + 1 : Nat) : Int) := by rw [wrap_id (by omega) (by omega)]; omega
theorem param_l0 (ps : List (L × L)) (n : L) (hl : ps.length ≤ 100000000000) : ∀ (d k i : Nat), i + d = ps.length → d < k →
    media_Param.l0 k (mk n) (pairsB ps) ((pairsB ps).length : Int) (i : Int) = some (match param (ps.drop i) n with
      | some v => (mk v, true)
      | none => ((⟨#[]⟩ : ByteArray), false)) := by
  intro d
  induction d with
  | zero =>
    intro k i hi hk
    obtain ⟨k, rfl⟩ : ∃ m, k = m + 1 := ⟨k - 1, by omega⟩
    rw [media_Param.l0, if_neg (by rw [pairsB_len]; omega), List.drop_eq_nil_of_le (by omega)]
    rfl
  | succ d ih =>
    intro k i hi hk
    obtain ⟨k, rfl⟩ : ∃ m, k = m + 1 := ⟨k - 1, by omega⟩
    have hlt : i < ps.length := by omega
    rw [media_Param.l0, if_pos (by rw [pairsB_len]; omega), if_pos (by omega), if_pos (by rw [pairsB_len]; omega), rdp ps i ps[i] (List.getElem?_eq_getElem hlt), tl_mk, tl_mk, List.drop_eq_getElem_cons hlt]
    unfold param
    by_cases h : ps[i].1 = n
    · rw [if_pos h, List.find?_cons_of_pos (by simpa using h)]
      rfl
    · rw [if_neg h, List.find?_cons_of_neg (by simpa using h), w1_ i (by omega), ih k (i + 1) (by omega) (by omega)]
      rfl
theorem paramF (a b : ByteArray) (ps : List (L × L)) (n : L) (k : Nat) (hl : ps.length ≤ 100000000000) (hk : ps.length < k) :
    media_Param.f k a b (pairsB ps) (mk n) = some (match param ps n with
      | some v => (mk v, true)
      | none => ((⟨#[]⟩ : ByteArray), false)) := by
  unfold media_Param.f
  have := param_l0 ps n hl ps.length k 0 (by omega) hk
  simpa using this
def cntL : List (L × L) → Int → Int
  | [], n => n
  | p :: l, n => cntL l (if p.1 = [113] then n else wrap64 (n + 1))
def hundL (t : L) (n : Int) : Int := if t = [42] then n else wrap64 (n + 100)
def narrowL (m : Med) : Int := hundL m.s (hundL m.t (cntL m.ps 0))
theorem cnt_eq (l : List (L × L)) : ∀ n, cntP (pairsB l) n = cntL l n := by
  induction l with
  | nil => intro n; rfl
  | cons p r ih =>
    intro n
    show cntP (⟨mk p.1, mk p.2⟩ :: pairsB r) n = _
    rw [cntP, cntL, tl_mk, ih]
theorem narrow_eq (m : Med) : narrowF (mk m.t) (mk m.s) (pairsB m.ps) = narrowL m := by
  unfold narrowF narrowL hund hundL
  rw [tl_mk, tl_mk, cnt_eq]
structure Rng where
  m : Med
  w : Nat
  n : Int
def medB (m : Med) : S40 := ⟨mk m.t, mk m.s, pairsB m.ps⟩
def rngB (r : Rng) : S66 := ⟨medB r.m, r.w, r.n⟩
def rngL (t : L) : Option Rng := (mparse t).map fun m => ⟨m, (match param m.ps [113] with
  | some v => weiL v
  | none => one64), narrowL m⟩
def rangesL (s : L) : List Rng := (split s).filterMap rngL
end Go.Proofs.YtghfbhobpodoeaaGreatDoor.Sp
/- Px16 -/
namespace Go.Proofs.YtghfbhobpodoeaaGreatDoor.P
open Go.Proofs.YtghfbhobpodoeaaGreatDoor.B
open Go.RowKit Go.Proofs.YtghfbhobpodoeaaGreatDoorW.PrintWords Go.Proofs.YtghfbhobpodoeaaGreatDoorW.PrintLast Go.Proofs.YtghfbhobpodoeaaGreatDoorW.PrintMore
attribute [local go_sem] run_store_float str_leq str_gtr str_geq max2_int min2_int max_two min_two max_three min_three max_four min_four
set_option linter.unusedVariables false
set_option linter.unusedSimpArgs false
open Go.Proofs.YtghfbhobpodoeaaGreatDoor.O
def quality_weight.l0 : Nat → List (S66) → Int → Int → ByteArray → ByteArray → List (S50) → ByteArray → ByteArray → List (S50) → Nat → Int → Option (Nat)
  | 0, _, _, _, _, _, _, _, _, _, _, _ => none
  | k + 1, x9, x10, x11, x160000, x160001, x160002, x161000, x161001, x161002, x161003, x161004 => if x11 < x10 then (if 0 ≤ x11 then (if x11 < (x9.length : Int) then ((media_Fits.f k ((rd_T66 x9 x11).f0.f0) ((rd_T66 x9 x11).f0.f1) ((rd_T66 x9 x11).f0.f2) x160000 x160001 x160002).bind fun t163 => (if t163 = true then (if ((rd_T66 x9 x11).f2) > x161004 then (quality_weight.l0 k x9 x10 (wrap64 (x11 + 1)) x160000 x160001 x160002 ((rd_T66 x9 x11).f0.f0) ((rd_T66 x9 x11).f0.f1) ((rd_T66 x9 x11).f0.f2) ((rd_T66 x9 x11).f1) ((rd_T66 x9 x11).f2)) else (quality_weight.l0 k x9 x10 (wrap64 (x11 + 1)) x160000 x160001 x160002 x161000 x161001 x161002 x161003 x161004)) else (quality_weight.l0 k x9 x10 (wrap64 (x11 + 1)) x160000 x160001 x160002 x161000 x161001 x161002 x161003 x161004))) else (none)) else (none)) else ((quality_Clamp.f x161003).bind fun t164 => (some t164))
def quality_weight.f (k : Nat) (l0 : List (S66)) (a1_0 : ByteArray) (a1_1 : ByteArray) (l1_2 : List (S50)) : Option (Nat) := quality_weight.l0 k l0 (l0.length : Int) 0 a1_0 a1_1 l1_2 (⟨#[]⟩ : ByteArray) (⟨#[]⟩ : ByteArray) ([] : List (S50)) 0 (-1)
set_option maxHeartbeats 8000000 in
set_option maxRecDepth 100000 in
theorem quality_weight.calls (k : Nat) (P0_ : Nat → Prop) (A0 : Option Addr) (c0 : Nat) (l0 : List (S66)) (a1_0 : ByteArray) (a1_1 : ByteArray) (A1_2 : Option Addr) (c1_2 : Nat) (l1_2 : List (S50)) (r : Nat) (w : World) (hs0 : Kd.V k66 66 w w.heap.size (fun k_ => P0_ k_) (.slice A0 l0.length c0) l0) (hr1_2 : Kd.C k50 w A1_2 l1_2.length l1_2) (hc1_2 : l1_2.length ≤ c1_2) (h : quality_weight.f k l0 a1_0 a1_1 l1_2 = some r) :
  Calls Tryz.prog 19 #[.slice A0 l0.length c0, .agg #[.string a1_0, .string a1_1, .slice A1_2 l1_2.length c1_2]] w fun e w' => e = .returned (.float .f64 r) ∧ Below w.heap.size w w' := by
 have hu40 := Tryz.underlying40
 have hu66 := Tryz.underlying66
 have HO0 := Aside0.mk (show Kd.V k66 66 w w.heap.size (fun k_ => (P0_ k_ ∨ w.heap.size ≤ k_)) (.slice A0 l0.length c0) l0 from Kd.V_mono hs0 (fun k_ hk => .inl hk))
 have HR1_2 := Aside0.mk hr1_2
 have HC1_2 := Aside0.mk hc1_2
 clear hr1_2 hc1_2
 have HB := Aside0.mk (Below.refl w.heap.size w)
 have H : (quality_weight.l0 k l0 (l0.length : Int) 0 a1_0 a1_1 l1_2 (⟨#[]⟩ : ByteArray) (⟨#[]⟩ : ByteArray) ([] : List (S50)) 0 (-1)) = some r := h
 clear h
 have H' := Aside0.mk H
 clear H
 go_enter Tryz.func19, Tryz.ntmps19
 go_wp2_with (first | ((with_reducible refine gate_dst (N := 3) rfl ?_); refine box_event ?hg (N := 3) ?hd (cs := #[.string a1_0, .string a1_1, .slice A1_2 l1_2.length c1_2]) (t := 40) ?hr ?_; (case hd => rfl); (case hg => rfl); (case hr => first | (go_simp; done) | (go_simp; rfl)); intro gb159 hg w3 hbox hb; have n0_ := Aside0.mk (Kd.V_below (Kd.V_elderB (by (with_reducible repeat (first | apply Kd.V_alloc | apply Kd.V_drewN | apply Kd.V_drew)); exact HO0.out) gb159 (Nat.le_of_eq hg.symm)) hb); have n1_ := Aside0.mk (below_step zb0 hb); have n2_ := Aside0.mk (hbox); have n3_ := Aside0.mk ((by rw [hg]; exact (below_size zb0) : w.heap.size ≤ gb159)); have n4_ := Aside0.mk ((by rw [hg]; exact (below_size zb0) : w.heap.size ≤ gb159)); clear HO0; clear HB; have HO0 := n0_; have HB := n1_; have BK159 := n2_; have GW159 := n3_; have GE159 := n4_; clear n0_ n1_ n2_ n3_ n4_; clear hb hbox hg) | ((with_reducible refine gate_dst (N := 5) rfl ?_); refine box_event ?hg (N := 5) ?hd (cs := #[.string (⟨#[]⟩ : ByteArray), .string (⟨#[]⟩ : ByteArray), .slice none 0 0, .float .f64 0, .int .i64 0]) (t := 66) ?hr ?_; (case hd => rfl); (case hg => rfl); (case hr => first | (go_simp; done) | (go_simp; rfl)); intro gb160 hg w4 hbox hb; have n0_ := Aside0.mk (Kd.V_below (Kd.V_elderB (by (with_reducible repeat (first | apply Kd.V_alloc | apply Kd.V_drewN | apply Kd.V_drew)); exact HO0.out) gb160 (Nat.le_of_eq hg.symm)) hb); have n1_ := Aside0.mk (blk_below (g := gb159) (o := .cells #[.string a1_0, .string a1_1, .slice A1_2 l1_2.length c1_2] 40 (0, 0)) zb10 hb); have n2_ := Aside0.mk (below_step zb33 hb); have n3_ := Aside0.mk (hbox); have n4_ := Aside0.mk ((by rw [hg]; exact (below_size zb33) : w.heap.size ≤ gb160)); have n5_ := Aside0.mk ((by rw [hg]; exact (below_size zb33) : w.heap.size ≤ gb160)); have n6_ := Aside0.mk ((by rw [hg]; exact Nat.ne_of_lt (blk_lt (g := gb159) (o := .cells #[.string a1_0, .string a1_1, .slice A1_2 l1_2.length c1_2] 40 (0, 0)) zb10) : gb159 ≠ gb160)); have n7_ := Aside0.mk ((by rw [hg]; exact Nat.ne_of_gt (blk_lt (g := gb159) (o := .cells #[.string a1_0, .string a1_1, .slice A1_2 l1_2.length c1_2] 40 (0, 0)) zb10) : gb160 ≠ gb159)); clear HO0; clear BK159; clear HB; have HO0 := n0_; have BK159 := n1_; have HB := n2_; have BK160 := n3_; have GW160 := n4_; have GE160 := n5_; have NB159_160 := n6_; have NB160_159 := n7_; clear n0_ n1_ n2_ n3_ n4_ n5_ n6_ n7_; clear hb hbox hg; have hnb5 := NB160_159.out; have hnc5 := NB159_160.out; have hcz6_0 : w4.cell? ⟨gb160, 0, none⟩ = some (.string (⟨#[]⟩ : ByteArray)) := (blk_cell BK160.out 0).trans rfl; have hcz6_1 : w4.cell? ⟨gb160, 1, none⟩ = some (.string (⟨#[]⟩ : ByteArray)) := (blk_cell BK160.out 1).trans rfl; have hcz6_2 : w4.cell? ⟨gb160, 2, none⟩ = some (.slice none 0 0) := (blk_cell BK160.out 2).trans rfl; have hcz6_3 : w4.cell? ⟨gb160, 3, none⟩ = some (.float .f64 0) := (blk_cell BK160.out 3).trans rfl; have hcz6_4 : w4.cell? ⟨gb160, 4, none⟩ = some (.int .i64 0) := (blk_cell BK160.out 4).trans rfl; have hfz6_0 := blk_frozen BK160.out 0; have hfz6_1 := blk_frozen BK160.out 1; have hfz6_2 := blk_frozen BK160.out 2; have hfz6_3 := blk_frozen BK160.out 3; have hfz6_4 := blk_frozen BK160.out 4))
 first | go_loopg [11] k (fun kq v11 w' => ∃ (x11_1 : Int) (x161000_1 : ByteArray) (x161001_1 : ByteArray) (x161002_1 : List (S50)) (x161003_1 : Nat) (x161004_1 : Int) (u161002 : Value), v11 = .int .i64 x11_1 ∧ Aside0 (quality_weight.l0 kq l0 (l0.length : Int) x11_1 a1_0 a1_1 l1_2 x161000_1 x161001_1 x161002_1 x161003_1 x161004_1 = some r) ∧ Aside0 (kq ≤ k) ∧ Aside0 (Kd.V k66 66 w' w.heap.size (fun k_ => (P0_ k_ ∨ w.heap.size ≤ k_) ∧ k_ ≠ gb159 ∧ k_ ≠ gb160) (.slice A0 l0.length c0) l0) ∧ Aside0 (Kd.V k50 50 w' w.heap.size (fun k_ => (P0_ k_ ∨ w.heap.size ≤ k_) ∧ k_ ≠ gb159 ∧ k_ ≠ gb160) u161002 x161002_1) ∧ Aside0 (w'.heap[gb159]? = some (.cells #[.string a1_0, .string a1_1, (.slice A1_2 l1_2.length c1_2)] 40 (0, 0))) ∧ Aside0 (w'.heap[gb160]? = some (.cells #[.string x161000_1, .string x161001_1, u161002, .float .f64 x161003_1, .int .i64 x161004_1] 66 (0, 0))) ∧ Aside0 (Below w.heap.size w w')) | (go_simp; go_loopg [11] k (fun kq v11 w' => ∃ (x11_1 : Int) (x161000_1 : ByteArray) (x161001_1 : ByteArray) (x161002_1 : List (S50)) (x161003_1 : Nat) (x161004_1 : Int) (u161002 : Value), v11 = .int .i64 x11_1 ∧ Aside0 (quality_weight.l0 kq l0 (l0.length : Int) x11_1 a1_0 a1_1 l1_2 x161000_1 x161001_1 x161002_1 x161003_1 x161004_1 = some r) ∧ Aside0 (kq ≤ k) ∧ Aside0 (Kd.V k66 66 w' w.heap.size (fun k_ => (P0_ k_ ∨ w.heap.size ≤ k_) ∧ k_ ≠ gb159 ∧ k_ ≠ gb160) (.slice A0 l0.length c0) l0) ∧ Aside0 (Kd.V k50 50 w' w.heap.size (fun k_ => (P0_ k_ ∨ w.heap.size ≤ k_) ∧ k_ ≠ gb159 ∧ k_ ≠ gb160) u161002 x161002_1) ∧ Aside0 (w'.heap[gb159]? = some (.cells #[.string a1_0, .string a1_1, (.slice A1_2 l1_2.length c1_2)] 40 (0, 0))) ∧ Aside0 (w'.heap[gb160]? = some (.cells #[.string x161000_1, .string x161001_1, u161002, .float .f64 x161003_1, .int .i64 x161004_1] 66 (0, 0))) ∧ Aside0 (Below w.heap.size w w')))
 case atStart => exact ⟨(0), ((⟨#[]⟩ : ByteArray)), ((⟨#[]⟩ : ByteArray)), (([] : List (S50))), (0), ((-1)), (.slice none 0 0), zb4, H', ⟨Nat.le_refl _⟩, ⟨by (with_reducible repeat (first | apply Kd.V_alloc | apply Kd.V_drewN | apply Kd.V_drew)); exact Kd.V_mono (Kd.V_far (p := ⟨gb160, 4, none⟩) (Kd.V_far (p := ⟨gb160, 3, none⟩) (Kd.V_far (p := ⟨gb160, 2, none⟩) (Kd.V_far (p := ⟨gb160, 1, none⟩) (Kd.V_far (p := ⟨gb160, 0, none⟩) (Kd.V_mono HO0.out (fun k_ hk => (⟨hk, hk.2⟩ : _ ∧ k_ ≠ gb160))) (fun _ hk => hk.2) (.string (⟨#[]⟩ : ByteArray))) (fun _ hk => hk.2) (.string (⟨#[]⟩ : ByteArray))) (fun _ hk => hk.2) (.slice none 0 0)) (fun _ hk => hk.2) (.float .f64 0)) (fun _ hk => hk.2) (.int .i64 (-1))) (fun _ hk => ⟨hk.1.1.1, ⟨hk.1.1.2, hk.1.2⟩⟩)⟩, ⟨Kd.V_nil _ _ _ _ _⟩, ⟨by (with_reducible repeat (first | refine blk_drewN ?_ _ | refine blk_drew ?_ | refine blk_alloc ?_ _)); refine blk_far ?_ NB159_160.out _; (with_reducible repeat (first | refine blk_drewN ?_ _ | refine blk_drew ?_ | refine blk_alloc ?_ _)); refine blk_far ?_ NB159_160.out _; (with_reducible repeat (first | refine blk_drewN ?_ _ | refine blk_drew ?_ | refine blk_alloc ?_ _)); refine blk_far ?_ NB159_160.out _; (with_reducible repeat (first | refine blk_drewN ?_ _ | refine blk_drew ?_ | refine blk_alloc ?_ _)); refine blk_far ?_ NB159_160.out _; (with_reducible repeat (first | refine blk_drewN ?_ _ | refine blk_drew ?_ | refine blk_alloc ?_ _)); refine blk_far ?_ NB159_160.out _; (with_reducible repeat (first | refine blk_drewN ?_ _ | refine blk_drew ?_ | refine blk_alloc ?_ _)); exact BK159.out⟩, ⟨by (with_reducible repeat (first | refine blk_drewN ?_ _ | refine blk_drew ?_ | refine blk_alloc ?_ _)); refine blk_put (cs := #[.string (⟨#[]⟩ : ByteArray), .string (⟨#[]⟩ : ByteArray), .slice none 0 0, .float .f64 0, .int .i64 0]) ?_ 4 _ rfl; (with_reducible repeat (first | refine blk_drewN ?_ _ | refine blk_drew ?_ | refine blk_alloc ?_ _)); refine blk_put (cs := #[.string (⟨#[]⟩ : ByteArray), .string (⟨#[]⟩ : ByteArray), .slice none 0 0, .float .f64 0, .int .i64 0]) ?_ 3 _ rfl; (with_reducible repeat (first | refine blk_drewN ?_ _ | refine blk_drew ?_ | refine blk_alloc ?_ _)); refine blk_put (cs := #[.string (⟨#[]⟩ : ByteArray), .string (⟨#[]⟩ : ByteArray), .slice none 0 0, .float .f64 0, .int .i64 0]) ?_ 2 _ rfl; (with_reducible repeat (first | refine blk_drewN ?_ _ | refine blk_drew ?_ | refine blk_alloc ?_ _)); refine blk_put (cs := #[.string (⟨#[]⟩ : ByteArray), .string (⟨#[]⟩ : ByteArray), .slice none 0 0, .float .f64 0, .int .i64 0]) ?_ 1 _ rfl; (with_reducible repeat (first | refine blk_drewN ?_ _ | refine blk_drew ?_ | refine blk_alloc ?_ _)); refine blk_put (cs := #[.string (⟨#[]⟩ : ByteArray), .string (⟨#[]⟩ : ByteArray), .slice none 0 0, .float .f64 0, .int .i64 0]) ?_ 0 _ rfl; (with_reducible repeat (first | refine blk_drewN ?_ _ | refine blk_drew ?_ | refine blk_alloc ?_ _)); exact BK160.out⟩, ⟨by repeat (first | (with_reducible first | exact HB.out | apply below_alloc | apply pw_below_drewN | apply below_drew1 | refine below_set ?_ GE159.out | refine below_set ?_ GE160.out) | exact HB.out)⟩⟩
 case round =>
  clear H'
  try clear c1
  try clear p2
  try clear c5
  try clear hcz6_0
  try clear hcz6_1
  try clear hcz6_2
  try clear hcz6_3
  try clear hcz6_4
  try clear hfz6_0
  try clear hfz6_1
  try clear hfz6_2
  try clear hfz6_3
  try clear hfz6_4
  obtain ⟨x11_1, x161000_1, x161001_1, x161002_1, x161003_1, x161004_1, u161002, rfl, HA, HK1, HO_9, HO_161002, BK159, BK160, HB⟩ := hrel
  cases gk with
  | zero => exact absurd HA.out (by simp [quality_weight.l0])
  | succ k1 =>
   have H := HA.out
   clear HA
   simp only [quality_weight.l0] at H
   by_cases c7 : x11_1 < (l0.length : Int)
   ·rw [if_pos c7] at H
    have c7b0 : decide (x11_1 < (l0.length : Int)) = true := decide_eq_true c7
    clear c7
    by_cases c8 : 0 ≤ x11_1
    ·rw [if_pos c8] at H
     have c8b0 : decide (0 ≤ x11_1) = true := decide_eq_true c8
     clear c8
     by_cases c9 : x11_1 < (l0.length : Int)
     ·rw [if_pos c9] at H
      have c9b0 : decide (x11_1 < (l0.length : Int)) = true := decide_eq_true c9
      clear c9
      replace H := Option.bind_eq_some_iff.mp H
      obtain ⟨t163, A100, H⟩ := H
      replace H : (if t163 = true then (if ((rd_T66 l0 x11_1).f2) > x161004_1 then (quality_weight.l0 k1 l0 (l0.length : Int) (wrap64 (x11_1 + 1)) a1_0 a1_1 l1_2 ((rd_T66 l0 x11_1).f0.f0) ((rd_T66 l0 x11_1).f0.f1) ((rd_T66 l0 x11_1).f0.f2) ((rd_T66 l0 x11_1).f1) ((rd_T66 l0 x11_1).f2)) else (quality_weight.l0 k1 l0 (l0.length : Int) (wrap64 (x11_1 + 1)) a1_0 a1_1 l1_2 x161000_1 x161001_1 x161002_1 x161003_1 x161004_1)) else (quality_weight.l0 k1 l0 (l0.length : Int) (wrap64 (x11_1 + 1)) a1_0 a1_1 l1_2 x161000_1 x161001_1 x161002_1 x161003_1 x161004_1)) = some r := H
      have A10 := Aside0.mk A100
      clear A100
      by_cases c11 : t163 = true
      ·subst c11
       replace H : (if ((rd_T66 l0 x11_1).f2) > x161004_1 then (quality_weight.l0 k1 l0 (l0.length : Int) (wrap64 (x11_1 + 1)) a1_0 a1_1 l1_2 ((rd_T66 l0 x11_1).f0.f0) ((rd_T66 l0 x11_1).f0.f1) ((rd_T66 l0 x11_1).f0.f2) ((rd_T66 l0 x11_1).f1) ((rd_T66 l0 x11_1).f2)) else (quality_weight.l0 k1 l0 (l0.length : Int) (wrap64 (x11_1 + 1)) a1_0 a1_1 l1_2 x161000_1 x161001_1 x161002_1 x161003_1 x161004_1)) = some r := by rw [if_pos rfl] at H; exact H
       by_cases c12 : ((rd_T66 l0 x11_1).f2) > x161004_1
       ·rw [if_pos c12] at H
        have c12b0 : decide (x161004_1 < ((rd_T66 l0 x11_1).f2)) = true := decide_eq_true c12
        clear c12
        have H' := Aside0.mk H
        clear H
        have p161 : 0 ≤ (x11_1 : Int) := of_decide_eq_true zb3
        have q161 : x11_1 < (l0.length : Int) := of_decide_eq_true zb3
        obtain ⟨ad161, A161_2, c161_2, e161, hx161_0, hx161_1, hx161_2, hx161_3, hx161_4, hl161_2, hi161_2⟩ := at_T66 (Kd.V_reads' HO_9.out).2.2 x11_1 p161 q161
        cases e161
        obtain ⟨ce161, hce161, hMe161, hcc161⟩ := Kd.V_get HO_9.out z66 x11_1 p161 (by first | exact q161 | exact of_decide_eq_true zb3 | (have e_ := (Kd.V_reads' HO_9.out).1; omega))
        obtain ⟨ua161_2, uc161_2, rfl, ul161_2, ge161_2⟩ := k66_openF hMe161
        have hv161_2 := hcc161 2 _ rfl
        rw [add_field _ _ 2 zb42] at hv161_2
        replace hv161_2 := Option.some.inj (hv161_2.symm.trans hx161_2)
        injection hv161_2 with hva_ hvn_ hvc_
        rw [hva_] at ge161_2
        rw [hvc_] at ul161_2
        have HL161_2 := Aside0.mk (show Kd.V k50 50 _ w.heap.size _ _ ((rd_T66 l0 x11_1).f0.f2) from Kd.V_mk ul161_2 ge161_2)
        clear hva_ hvn_ hvc_ ge161_2 ul161_2
        clear hcc161 hce161
        have HR161_2 := Aside0.mk hi161_2
        have HC161_2 := Aside0.mk hl161_2
        clear hi161_2 hl161_2
        replace p161 := eq_true p161
        replace q161 := eq_true q161
        go_wp2_with (first | ((with_reducible refine gate_dst (N := 7) rfl ?_); refine box_event ?hg (N := 7) ?hd (cs := #[.string (⟨#[]⟩ : ByteArray), .string (⟨#[]⟩ : ByteArray), .slice none 0 0, .float .f64 0, .int .i64 0]) (t := 66) ?hr ?_; (case hd => rfl); (case hg => rfl); (case hr => first | (go_simp; done) | (go_simp; rfl)); intro gb162 hg w13 hbox hb; have n0_ := Aside0.mk (Kd.V_below (Kd.V_elderB (by (with_reducible repeat (first | apply Kd.V_alloc | apply Kd.V_drewN | apply Kd.V_drew)); exact HO_9.out) gb162 (Nat.le_of_eq hg.symm)) hb); have n1_ := Aside0.mk (Kd.V_below (Kd.V_elderB (by (with_reducible repeat (first | apply Kd.V_alloc | apply Kd.V_drewN | apply Kd.V_drew)); exact HO_161002.out) gb162 (Nat.le_of_eq hg.symm)) hb); have n2_ := Aside0.mk (Kd.V_below (Kd.V_elderB (by (with_reducible repeat (first | apply Kd.V_alloc | apply Kd.V_drewN | apply Kd.V_drew)); exact HL161_2.out) gb162 (Nat.le_of_eq hg.symm)) hb); have n3_ := Aside0.mk (blk_below (g := gb159) (o := .cells #[.string a1_0, .string a1_1, .slice A1_2 l1_2.length c1_2] 40 (0, 0)) zb10 hb); have n4_ := Aside0.mk (blk_below (g := gb160) (o := .cells #[.string x161000_1, .string x161001_1, u161002, .float .f64 x161003_1, .int .i64 x161004_1] 66 (0, 0)) zb12 hb); have n5_ := Aside0.mk (Kd.C_below zb46 hb); have n6_ := Aside0.mk (below_step zb8 hb); have n7_ := Aside0.mk (hbox); have n8_ := Aside0.mk ((by rw [hg]; exact (below_size zb8) : w.heap.size ≤ gb162)); have n9_ := Aside0.mk ((by rw [hg]; exact (below_size zb8) : w.heap.size ≤ gb162)); have n10_ := Aside0.mk ((by rw [hg]; exact Nat.ne_of_lt (blk_lt (g := gb159) (o := .cells #[.string a1_0, .string a1_1, .slice A1_2 l1_2.length c1_2] 40 (0, 0)) zb10) : gb159 ≠ gb162)); have n11_ := Aside0.mk ((by rw [hg]; exact Nat.ne_of_gt (blk_lt (g := gb159) (o := .cells #[.string a1_0, .string a1_1, .slice A1_2 l1_2.length c1_2] 40 (0, 0)) zb10) : gb162 ≠ gb159)); have n12_ := Aside0.mk ((by rw [hg]; exact Nat.ne_of_lt (blk_lt (g := gb160) (o := .cells #[.string x161000_1, .string x161001_1, u161002, .float .f64 x161003_1, .int .i64 x161004_1] 66 (0, 0)) zb12) : gb160 ≠ gb162)); have n13_ := Aside0.mk ((by rw [hg]; exact Nat.ne_of_gt (blk_lt (g := gb160) (o := .cells #[.string x161000_1, .string x161001_1, u161002, .float .f64 x161003_1, .int .i64 x161004_1] 66 (0, 0)) zb12) : gb162 ≠ gb160)); clear HO_9; clear HO_161002; clear HL161_2; clear BK159; clear BK160; clear HR161_2; clear HB; have HO_9 := n0_; have HO_161002 := n1_; have HL161_2 := n2_; have BK159 := n3_; have BK160 := n4_; have HR161_2 := n5_; have HB := n6_; have BK162 := n7_; have GW162 := n8_; have GE162 := n9_; have NB159_162 := n10_; have NB162_159 := n11_; have NB160_162 := n12_; have NB162_160 := n13_; clear n0_ n1_ n2_ n3_ n4_ n5_ n6_ n7_ n8_ n9_ n10_ n11_ n12_ n13_; clear hb hbox hg; have hnb14 := NB162_159.out; have hnc14 := NB159_162.out; have hnb15 := NB162_160.out; have hnc15 := NB160_162.out; have hcz16_0 : w13.cell? ⟨gb162, 0, none⟩ = some (.string (⟨#[]⟩ : ByteArray)) := (blk_cell BK162.out 0).trans rfl; have hcz16_1 : w13.cell? ⟨gb162, 1, none⟩ = some (.string (⟨#[]⟩ : ByteArray)) := (blk_cell BK162.out 1).trans rfl; have hcz16_2 : w13.cell? ⟨gb162, 2, none⟩ = some (.slice none 0 0) := (blk_cell BK162.out 2).trans rfl; have hcz16_3 : w13.cell? ⟨gb162, 3, none⟩ = some (.float .f64 0) := (blk_cell BK162.out 3).trans rfl; have hcz16_4 : w13.cell? ⟨gb162, 4, none⟩ = some (.int .i64 0) := (blk_cell BK162.out 4).trans rfl; have hfz16_0 := blk_frozen BK162.out 0; have hfz16_1 := blk_frozen BK162.out 1; have hfz16_2 := blk_frozen BK162.out 2; have hfz16_3 := blk_frozen BK162.out 3; have hfz16_4 := blk_frozen BK162.out 4; have hnb17 := NB159_160.out; have hnc17 := NB160_159.out; have hcz18_0 : w13.cell? ⟨gb159, 0, none⟩ = some (.string a1_0) := (blk_cell BK159.out 0).trans rfl; have hcz18_1 : w13.cell? ⟨gb159, 1, none⟩ = some (.string a1_1) := (blk_cell BK159.out 1).trans rfl; have hcz18_2 : w13.cell? ⟨gb159, 2, none⟩ = some (.slice A1_2 l1_2.length c1_2) := (blk_cell BK159.out 2).trans rfl; have hfz18_0 := blk_frozen BK159.out 0; have hfz18_1 := blk_frozen BK159.out 1; have hfz18_2 := blk_frozen BK159.out 2) | ((with_reducible refine gate_callee (f := 32) rfl ?_); refine goesL_ (some 18) rfl rfl Tryz.func32 zb9 rfl #[.agg #[.string ((rd_T66 l0 x11_1).f0.f0), .string ((rd_T66 l0 x11_1).f0.f1), .slice A161_2 ((rd_T66 l0 x11_1).f0.f2).length c161_2], .agg #[.string a1_0, .string a1_1, .slice A1_2 l1_2.length c1_2]] rfl zb2 ?_; (with_reducible refine (media_Fits.calls k1 ((rd_T66 l0 x11_1).f0.f0) ((rd_T66 l0 x11_1).f0.f1) _ _ ((rd_T66 l0 x11_1).f0.f2) a1_0 a1_1 _ _ l1_2 true _ ?side1 ?side2 ?side3 ?side4 A10.out).mono ?_); (case side1 => repeat (first | exact ((Kd.V_reads' zb5).2.2) | (with_reducible refine Kd.C_alloc ?_ _) | (with_reducible refine Kd.C_drewN ?_ _) | (with_reducible refine Kd.C_drew ?_))); (case side2 => exact HC161_2.out); (case side3 => exact Kd.C_below HR1_2.out zb7); (case side4 => exact HC1_2.out); rintro e w19 ⟨rfl, hb⟩; refine ⟨_, rfl, ?_⟩; have n0_ := Aside0.mk (Kd.V_below zb20 hb); have n1_ := Aside0.mk (Kd.V_below zb19 hb); have n2_ := Aside0.mk (Kd.V_below zb5 hb); have n3_ := Aside0.mk (blk_below (g := gb159) (o := .cells #[.string a1_0, .string a1_1, .slice A1_2 l1_2.length c1_2] 40 (0, 0)) zb17 hb); have n4_ := Aside0.mk (blk_below (g := gb160) (o := .cells #[.string x161000_1, .string x161001_1, u161002, .float .f64 x161003_1, .int .i64 x161004_1] 66 (0, 0)) zb16 hb); have n5_ := Aside0.mk (Kd.C_below ((Kd.V_reads' zb5).2.2) hb); have n6_ := Aside0.mk (blk_below (g := gb162) (o := .cells #[.string ((rd_T66 l0 x11_1).f0.f0), .string ((rd_T66 l0 x11_1).f0.f1), .slice A161_2 ((rd_T66 l0 x11_1).f0.f2).length c161_2, .float .f64 ((rd_T66 l0 x11_1).f1), .int .i64 ((rd_T66 l0 x11_1).f2)] 66 (0, 0)) zb11 hb); have n7_ := Aside0.mk (below_step zb7 hb); clear HO_9; clear HO_161002; clear HL161_2; clear BK159; clear BK160; clear HR161_2; clear BK162; clear HB; have HO_9 := n0_; have HO_161002 := n1_; have HL161_2 := n2_; have BK159 := n3_; have BK160 := n4_; have HR161_2 := n5_; have BK162 := n6_; have HB := n7_; clear n0_ n1_ n2_ n3_ n4_ n5_ n6_ n7_; (try clear hb); (try clear hb2); (try clear hk); (try clear hi); have hcz20_0 : w19.cell? ⟨gb162, 0, none⟩ = some (.string ((rd_T66 l0 x11_1).f0.f0)) := (blk_cell BK162.out 0).trans rfl; have hcz20_1 : w19.cell? ⟨gb162, 1, none⟩ = some (.string ((rd_T66 l0 x11_1).f0.f1)) := (blk_cell BK162.out 1).trans rfl; have hcz20_2 : w19.cell? ⟨gb162, 2, none⟩ = some (.slice A161_2 ((rd_T66 l0 x11_1).f0.f2).length c161_2) := (blk_cell BK162.out 2).trans rfl; have hcz20_3 : w19.cell? ⟨gb162, 3, none⟩ = some (.float .f64 ((rd_T66 l0 x11_1).f1)) := (blk_cell BK162.out 3).trans rfl; have hcz20_4 : w19.cell? ⟨gb162, 4, none⟩ = some (.int .i64 ((rd_T66 l0 x11_1).f2)) := (blk_cell BK162.out 4).trans rfl; have hfz20_0 := blk_frozen BK162.out 0; have hfz20_1 := blk_frozen BK162.out 1; have hfz20_2 := blk_frozen BK162.out 2; have hfz20_3 := blk_frozen BK162.out 3; have hfz20_4 := blk_frozen BK162.out 4; have hcz21_0 : w19.cell? ⟨gb160, 0, none⟩ = some (.string x161000_1) := (blk_cell BK160.out 0).trans rfl; have hcz21_1 : w19.cell? ⟨gb160, 1, none⟩ = some (.string x161001_1) := (blk_cell BK160.out 1).trans rfl; have hcz21_2 : w19.cell? ⟨gb160, 2, none⟩ = some (u161002) := (blk_cell BK160.out 2).trans rfl; have hcz21_3 : w19.cell? ⟨gb160, 3, none⟩ = some (.float .f64 x161003_1) := (blk_cell BK160.out 3).trans rfl; have hcz21_4 : w19.cell? ⟨gb160, 4, none⟩ = some (.int .i64 x161004_1) := (blk_cell BK160.out 4).trans rfl; have hfz21_0 := blk_frozen BK160.out 0; have hfz21_1 := blk_frozen BK160.out 1; have hfz21_2 := blk_frozen BK160.out 2; have hfz21_3 := blk_frozen BK160.out 3; have hfz21_4 := blk_frozen BK160.out 4))
        go_roundg k1
        case measure => have := HK1.out; omega
        case rel => exact ⟨(wrap64 (x11_1 + 1)), ((rd_T66 l0 x11_1).f0.f0), ((rd_T66 l0 x11_1).f0.f1), ((rd_T66 l0 x11_1).f0.f2), ((rd_T66 l0 x11_1).f1), ((rd_T66 l0 x11_1).f2), (.slice A161_2 ((rd_T66 l0 x11_1).f0.f2).length c161_2), zb4, H', ⟨by have := HK1.out; omega⟩, ⟨by (with_reducible repeat (first | apply Kd.V_alloc | apply Kd.V_drewN | apply Kd.V_drew)); exact Kd.V_mono (Kd.V_far (p := ⟨gb160, 4, none⟩) (Kd.V_far (p := ⟨gb160, 3, none⟩) (Kd.V_far (p := ⟨gb160, 2, none⟩) (Kd.V_far (p := ⟨gb160, 1, none⟩) (Kd.V_far (p := ⟨gb160, 0, none⟩) (Kd.V_mono HO_9.out (fun k_ hk => (⟨hk, hk.1.2.2⟩ : _ ∧ k_ ≠ gb160))) (fun _ hk => hk.2) (.string ((rd_T66 l0 x11_1).f0.f0))) (fun _ hk => hk.2) (.string ((rd_T66 l0 x11_1).f0.f1))) (fun _ hk => hk.2) (.slice A161_2 ((rd_T66 l0 x11_1).f0.f2).length c161_2)) (fun _ hk => hk.2) (.float .f64 ((rd_T66 l0 x11_1).f1))) (fun _ hk => hk.2) (.int .i64 ((rd_T66 l0 x11_1).f2))) (fun _ hk => ⟨hk.1.1.1, ⟨hk.1.1.2.1, hk.1.1.2.2⟩⟩)⟩, ⟨by (with_reducible repeat (first | apply Kd.V_alloc | apply Kd.V_drewN | apply Kd.V_drew)); exact Kd.V_mono (Kd.V_far (p := ⟨gb160, 4, none⟩) (Kd.V_far (p := ⟨gb160, 3, none⟩) (Kd.V_far (p := ⟨gb160, 2, none⟩) (Kd.V_far (p := ⟨gb160, 1, none⟩) (Kd.V_far (p := ⟨gb160, 0, none⟩) (Kd.V_mono HL161_2.out (fun k_ hk => (⟨hk, hk.1.2.2⟩ : _ ∧ k_ ≠ gb160))) (fun _ hk => hk.2) (.string ((rd_T66 l0 x11_1).f0.f0))) (fun _ hk => hk.2) (.string ((rd_T66 l0 x11_1).f0.f1))) (fun _ hk => hk.2) (.slice A161_2 ((rd_T66 l0 x11_1).f0.f2).length c161_2)) (fun _ hk => hk.2) (.float .f64 ((rd_T66 l0 x11_1).f1))) (fun _ hk => hk.2) (.int .i64 ((rd_T66 l0 x11_1).f2))) (fun _ hk => ⟨hk.1.1.1, ⟨hk.1.1.2.1, hk.1.1.2.2⟩⟩)⟩, ⟨by (with_reducible repeat (first | refine blk_drewN ?_ _ | refine blk_drew ?_ | refine blk_alloc ?_ _)); refine blk_far ?_ NB159_160.out _; (with_reducible repeat (first | refine blk_drewN ?_ _ | refine blk_drew ?_ | refine blk_alloc ?_ _)); refine blk_far ?_ NB159_160.out _; (with_reducible repeat (first | refine blk_drewN ?_ _ | refine blk_drew ?_ | refine blk_alloc ?_ _)); refine blk_far ?_ NB159_160.out _; (with_reducible repeat (first | refine blk_drewN ?_ _ | refine blk_drew ?_ | refine blk_alloc ?_ _)); refine blk_far ?_ NB159_160.out _; (with_reducible repeat (first | refine blk_drewN ?_ _ | refine blk_drew ?_ | refine blk_alloc ?_ _)); refine blk_far ?_ NB159_160.out _; (with_reducible repeat (first | refine blk_drewN ?_ _ | refine blk_drew ?_ | refine blk_alloc ?_ _)); exact BK159.out⟩, ⟨by (with_reducible repeat (first | refine blk_drewN ?_ _ | refine blk_drew ?_ | refine blk_alloc ?_ _)); refine blk_put (cs := #[.string ((rd_T66 l0 x11_1).f0.f0), .string ((rd_T66 l0 x11_1).f0.f1), .slice A161_2 ((rd_T66 l0 x11_1).f0.f2).length c161_2, .float .f64 ((rd_T66 l0 x11_1).f1), .int .i64 x161004_1]) ?_ 4 _ rfl; (with_reducible repeat (first | refine blk_drewN ?_ _ | refine blk_drew ?_ | refine blk_alloc ?_ _)); refine blk_put (cs := #[.string ((rd_T66 l0 x11_1).f0.f0), .string ((rd_T66 l0 x11_1).f0.f1), .slice A161_2 ((rd_T66 l0 x11_1).f0.f2).length c161_2, .float .f64 x161003_1, .int .i64 x161004_1]) ?_ 3 _ rfl; (with_reducible repeat (first | refine blk_drewN ?_ _ | refine blk_drew ?_ | refine blk_alloc ?_ _)); refine blk_put (cs := #[.string ((rd_T66 l0 x11_1).f0.f0), .string ((rd_T66 l0 x11_1).f0.f1), u161002, .float .f64 x161003_1, .int .i64 x161004_1]) ?_ 2 _ rfl; (with_reducible repeat (first | refine blk_drewN ?_ _ | refine blk_drew ?_ | refine blk_alloc ?_ _)); refine blk_put (cs := #[.string ((rd_T66 l0 x11_1).f0.f0), .string x161001_1, u161002, .float .f64 x161003_1, .int .i64 x161004_1]) ?_ 1 _ rfl; (with_reducible repeat (first | refine blk_drewN ?_ _ | refine blk_drew ?_ | refine blk_alloc ?_ _)); refine blk_put (cs := #[.string x161000_1, .string x161001_1, u161002, .float .f64 x161003_1, .int .i64 x161004_1]) ?_ 0 _ rfl; (with_reducible repeat (first | refine blk_drewN ?_ _ | refine blk_drew ?_ | refine blk_alloc ?_ _)); exact BK160.out⟩, ⟨by repeat (first | (with_reducible first | exact HB.out | apply below_alloc | apply pw_below_drewN | apply below_drew1 | refine below_set ?_ GE159.out | refine below_set ?_ GE160.out | refine below_set ?_ GE162.out) | exact HB.out)⟩⟩
       ·rw [if_neg c12] at H
        have c12b0 : decide (x161004_1 < ((rd_T66 l0 x11_1).f2)) = false := decide_eq_false c12
        clear c12
        have H' := Aside0.mk H
        clear H
        have p161 : 0 ≤ (x11_1 : Int) := of_decide_eq_true zb3
        have q161 : x11_1 < (l0.length : Int) := of_decide_eq_true zb3
        obtain ⟨ad161, A161_2, c161_2, e161, hx161_0, hx161_1, hx161_2, hx161_3, hx161_4, hl161_2, hi161_2⟩ := at_T66 (Kd.V_reads' HO_9.out).2.2 x11_1 p161 q161
        cases e161
        obtain ⟨ce161, hce161, hMe161, hcc161⟩ := Kd.V_get HO_9.out z66 x11_1 p161 (by first | exact q161 | exact of_decide_eq_true zb3 | (have e_ := (Kd.V_reads' HO_9.out).1; omega))
        obtain ⟨ua161_2, uc161_2, rfl, ul161_2, ge161_2⟩ := k66_openF hMe161
        have hv161_2 := hcc161 2 _ rfl
        rw [add_field _ _ 2 zb42] at hv161_2
        replace hv161_2 := Option.some.inj (hv161_2.symm.trans hx161_2)
        injection hv161_2 with hva_ hvn_ hvc_
        rw [hva_] at ge161_2
        rw [hvc_] at ul161_2
        have HL161_2 := Aside0.mk (show Kd.V k50 50 _ w.heap.size _ _ ((rd_T66 l0 x11_1).f0.f2) from Kd.V_mk ul161_2 ge161_2)
        clear hva_ hvn_ hvc_ ge161_2 ul161_2
        clear hcc161 hce161
        have HR161_2 := Aside0.mk hi161_2
        have HC161_2 := Aside0.mk hl161_2
        clear hi161_2 hl161_2
        replace p161 := eq_true p161
        replace q161 := eq_true q161
        go_wp2_with (first | ((with_reducible refine gate_dst (N := 7) rfl ?_); refine box_event ?hg (N := 7) ?hd (cs := #[.string (⟨#[]⟩ : ByteArray), .string (⟨#[]⟩ : ByteArray), .slice none 0 0, .float .f64 0, .int .i64 0]) (t := 66) ?hr ?_; (case hd => rfl); (case hg => rfl); (case hr => first | (go_simp; done) | (go_simp; rfl)); intro gb162 hg w22 hbox hb; have n0_ := Aside0.mk (Kd.V_below (Kd.V_elderB (by (with_reducible repeat (first | apply Kd.V_alloc | apply Kd.V_drewN | apply Kd.V_drew)); exact HO_9.out) gb162 (Nat.le_of_eq hg.symm)) hb); have n1_ := Aside0.mk (Kd.V_below (Kd.V_elderB (by (with_reducible repeat (first | apply Kd.V_alloc | apply Kd.V_drewN | apply Kd.V_drew)); exact HO_161002.out) gb162 (Nat.le_of_eq hg.symm)) hb); have n2_ := Aside0.mk (Kd.V_below (Kd.V_elderB (by (with_reducible repeat (first | apply Kd.V_alloc | apply Kd.V_drewN | apply Kd.V_drew)); exact HL161_2.out) gb162 (Nat.le_of_eq hg.symm)) hb); have n3_ := Aside0.mk (blk_below (g := gb159) (o := .cells #[.string a1_0, .string a1_1, .slice A1_2 l1_2.length c1_2] 40 (0, 0)) zb10 hb); have n4_ := Aside0.mk (blk_below (g := gb160) (o := .cells #[.string x161000_1, .string x161001_1, u161002, .float .f64 x161003_1, .int .i64 x161004_1] 66 (0, 0)) zb12 hb); have n5_ := Aside0.mk (Kd.C_below zb46 hb); have n6_ := Aside0.mk (below_step zb8 hb); have n7_ := Aside0.mk (hbox); have n8_ := Aside0.mk ((by rw [hg]; exact (below_size zb8) : w.heap.size ≤ gb162)); have n9_ := Aside0.mk ((by rw [hg]; exact (below_size zb8) : w.heap.size ≤ gb162)); have n10_ := Aside0.mk ((by rw [hg]; exact Nat.ne_of_lt (blk_lt (g := gb159) (o := .cells #[.string a1_0, .string a1_1, .slice A1_2 l1_2.length c1_2] 40 (0, 0)) zb10) : gb159 ≠ gb162)); have n11_ := Aside0.mk ((by rw [hg]; exact Nat.ne_of_gt (blk_lt (g := gb159) (o := .cells #[.string a1_0, .string a1_1, .slice A1_2 l1_2.length c1_2] 40 (0, 0)) zb10) : gb162 ≠ gb159)); have n12_ := Aside0.mk ((by rw [hg]; exact Nat.ne_of_lt (blk_lt (g := gb160) (o := .cells #[.string x161000_1, .string x161001_1, u161002, .float .f64 x161003_1, .int .i64 x161004_1] 66 (0, 0)) zb12) : gb160 ≠ gb162)); have n13_ := Aside0.mk ((by rw [hg]; exact Nat.ne_of_gt (blk_lt (g := gb160) (o := .cells #[.string x161000_1, .string x161001_1, u161002, .float .f64 x161003_1, .int .i64 x161004_1] 66 (0, 0)) zb12) : gb162 ≠ gb160)); clear HO_9; clear HO_161002; clear HL161_2; clear BK159; clear BK160; clear HR161_2; clear HB; have HO_9 := n0_; have HO_161002 := n1_; have HL161_2 := n2_; have BK159 := n3_; have BK160 := n4_; have HR161_2 := n5_; have HB := n6_; have BK162 := n7_; have GW162 := n8_; have GE162 := n9_; have NB159_162 := n10_; have NB162_159 := n11_; have NB160_162 := n12_; have NB162_160 := n13_; clear n0_ n1_ n2_ n3_ n4_ n5_ n6_ n7_ n8_ n9_ n10_ n11_ n12_ n13_; clear hb hbox hg; have hnb23 := NB162_159.out; have hnc23 := NB159_162.out; have hnb24 := NB162_160.out; have hnc24 := NB160_162.out; have hcz25_0 : w22.cell? ⟨gb162, 0, none⟩ = some (.string (⟨#[]⟩ : ByteArray)) := (blk_cell BK162.out 0).trans rfl; have hcz25_1 : w22.cell? ⟨gb162, 1, none⟩ = some (.string (⟨#[]⟩ : ByteArray)) := (blk_cell BK162.out 1).trans rfl; have hcz25_2 : w22.cell? ⟨gb162, 2, none⟩ = some (.slice none 0 0) := (blk_cell BK162.out 2).trans rfl; have hcz25_3 : w22.cell? ⟨gb162, 3, none⟩ = some (.float .f64 0) := (blk_cell BK162.out 3).trans rfl; have hcz25_4 : w22.cell? ⟨gb162, 4, none⟩ = some (.int .i64 0) := (blk_cell BK162.out 4).trans rfl; have hfz25_0 := blk_frozen BK162.out 0; have hfz25_1 := blk_frozen BK162.out 1; have hfz25_2 := blk_frozen BK162.out 2; have hfz25_3 := blk_frozen BK162.out 3; have hfz25_4 := blk_frozen BK162.out 4; have hnb26 := NB159_160.out; have hnc26 := NB160_159.out; have hcz27_0 : w22.cell? ⟨gb159, 0, none⟩ = some (.string a1_0) := (blk_cell BK159.out 0).trans rfl; have hcz27_1 : w22.cell? ⟨gb159, 1, none⟩ = some (.string a1_1) := (blk_cell BK159.out 1).trans rfl; have hcz27_2 : w22.cell? ⟨gb159, 2, none⟩ = some (.slice A1_2 l1_2.length c1_2) := (blk_cell BK159.out 2).trans rfl; have hfz27_0 := blk_frozen BK159.out 0; have hfz27_1 := blk_frozen BK159.out 1; have hfz27_2 := blk_frozen BK159.out 2) | ((with_reducible refine gate_callee (f := 32) rfl ?_); refine goesL_ (some 18) rfl rfl Tryz.func32 zb9 rfl #[.agg #[.string ((rd_T66 l0 x11_1).f0.f0), .string ((rd_T66 l0 x11_1).f0.f1), .slice A161_2 ((rd_T66 l0 x11_1).f0.f2).length c161_2], .agg #[.string a1_0, .string a1_1, .slice A1_2 l1_2.length c1_2]] rfl zb2 ?_; (with_reducible refine (media_Fits.calls k1 ((rd_T66 l0 x11_1).f0.f0) ((rd_T66 l0 x11_1).f0.f1) _ _ ((rd_T66 l0 x11_1).f0.f2) a1_0 a1_1 _ _ l1_2 true _ ?side1 ?side2 ?side3 ?side4 A10.out).mono ?_); (case side1 => repeat (first | exact ((Kd.V_reads' zb5).2.2) | (with_reducible refine Kd.C_alloc ?_ _) | (with_reducible refine Kd.C_drewN ?_ _) | (with_reducible refine Kd.C_drew ?_))); (case side2 => exact HC161_2.out); (case side3 => exact Kd.C_below HR1_2.out zb7); (case side4 => exact HC1_2.out); rintro e w28 ⟨rfl, hb⟩; refine ⟨_, rfl, ?_⟩; have n0_ := Aside0.mk (Kd.V_below zb20 hb); have n1_ := Aside0.mk (Kd.V_below zb19 hb); have n2_ := Aside0.mk (Kd.V_below zb5 hb); have n3_ := Aside0.mk (blk_below (g := gb159) (o := .cells #[.string a1_0, .string a1_1, .slice A1_2 l1_2.length c1_2] 40 (0, 0)) zb17 hb); have n4_ := Aside0.mk (blk_below (g := gb160) (o := .cells #[.string x161000_1, .string x161001_1, u161002, .float .f64 x161003_1, .int .i64 x161004_1] 66 (0, 0)) zb16 hb); have n5_ := Aside0.mk (Kd.C_below ((Kd.V_reads' zb5).2.2) hb); have n6_ := Aside0.mk (blk_below (g := gb162) (o := .cells #[.string ((rd_T66 l0 x11_1).f0.f0), .string ((rd_T66 l0 x11_1).f0.f1), .slice A161_2 ((rd_T66 l0 x11_1).f0.f2).length c161_2, .float .f64 ((rd_T66 l0 x11_1).f1), .int .i64 ((rd_T66 l0 x11_1).f2)] 66 (0, 0)) zb11 hb); have n7_ := Aside0.mk (below_step zb7 hb); clear HO_9; clear HO_161002; clear HL161_2; clear BK159; clear BK160; clear HR161_2; clear BK162; clear HB; have HO_9 := n0_; have HO_161002 := n1_; have HL161_2 := n2_; have BK159 := n3_; have BK160 := n4_; have HR161_2 := n5_; have BK162 := n6_; have HB := n7_; clear n0_ n1_ n2_ n3_ n4_ n5_ n6_ n7_; (try clear hb); (try clear hb2); (try clear hk); (try clear hi); have hcz29_0 : w28.cell? ⟨gb162, 0, none⟩ = some (.string ((rd_T66 l0 x11_1).f0.f0)) := (blk_cell BK162.out 0).trans rfl; have hcz29_1 : w28.cell? ⟨gb162, 1, none⟩ = some (.string ((rd_T66 l0 x11_1).f0.f1)) := (blk_cell BK162.out 1).trans rfl; have hcz29_2 : w28.cell? ⟨gb162, 2, none⟩ = some (.slice A161_2 ((rd_T66 l0 x11_1).f0.f2).length c161_2) := (blk_cell BK162.out 2).trans rfl; have hcz29_3 : w28.cell? ⟨gb162, 3, none⟩ = some (.float .f64 ((rd_T66 l0 x11_1).f1)) := (blk_cell BK162.out 3).trans rfl; have hcz29_4 : w28.cell? ⟨gb162, 4, none⟩ = some (.int .i64 ((rd_T66 l0 x11_1).f2)) := (blk_cell BK162.out 4).trans rfl; have hfz29_0 := blk_frozen BK162.out 0; have hfz29_1 := blk_frozen BK162.out 1; have hfz29_2 := blk_frozen BK162.out 2; have hfz29_3 := blk_frozen BK162.out 3; have hfz29_4 := blk_frozen BK162.out 4; have hcz30_0 : w28.cell? ⟨gb160, 0, none⟩ = some (.string x161000_1) := (blk_cell BK160.out 0).trans rfl; have hcz30_1 : w28.cell? ⟨gb160, 1, none⟩ = some (.string x161001_1) := (blk_cell BK160.out 1).trans rfl; have hcz30_2 : w28.cell? ⟨gb160, 2, none⟩ = some (u161002) := (blk_cell BK160.out 2).trans rfl; have hcz30_3 : w28.cell? ⟨gb160, 3, none⟩ = some (.float .f64 x161003_1) := (blk_cell BK160.out 3).trans rfl; have hcz30_4 : w28.cell? ⟨gb160, 4, none⟩ = some (.int .i64 x161004_1) := (blk_cell BK160.out 4).trans rfl; have hfz30_0 := blk_frozen BK160.out 0; have hfz30_1 := blk_frozen BK160.out 1; have hfz30_2 := blk_frozen BK160.out 2; have hfz30_3 := blk_frozen BK160.out 3; have hfz30_4 := blk_frozen BK160.out 4))
        go_roundg k1
        case measure => have := HK1.out; omega
        case rel => exact ⟨(wrap64 (x11_1 + 1)), (x161000_1), (x161001_1), (x161002_1), (x161003_1), (x161004_1), (u161002), zb4, H', ⟨by have := HK1.out; omega⟩, ⟨by (with_reducible repeat (first | apply Kd.V_alloc | apply Kd.V_drewN | apply Kd.V_drew)); exact Kd.V_mono HO_9.out (fun _ hk => ⟨hk.1.1, ⟨hk.1.2.1, hk.1.2.2⟩⟩)⟩, ⟨by (with_reducible repeat (first | apply Kd.V_alloc | apply Kd.V_drewN | apply Kd.V_drew)); exact Kd.V_mono HO_161002.out (fun _ hk => ⟨hk.1.1, ⟨hk.1.2.1, hk.1.2.2⟩⟩)⟩, ⟨by (with_reducible repeat (first | refine blk_drewN ?_ _ | refine blk_drew ?_ | refine blk_alloc ?_ _)); exact BK159.out⟩, ⟨by (with_reducible repeat (first | refine blk_drewN ?_ _ | refine blk_drew ?_ | refine blk_alloc ?_ _)); exact BK160.out⟩, ⟨by repeat (first | (with_reducible first | exact HB.out | apply below_alloc | apply pw_below_drewN | apply below_drew1 | refine below_set ?_ GE159.out | refine below_set ?_ GE160.out | refine below_set ?_ GE162.out) | exact HB.out)⟩⟩
      ·replace c11 := Bool.eq_false_iff.mpr c11
       subst c11
       replace H : (quality_weight.l0 k1 l0 (l0.length : Int) (wrap64 (x11_1 + 1)) a1_0 a1_1 l1_2 x161000_1 x161001_1 x161002_1 x161003_1 x161004_1) = some r := by rw [if_neg (show ¬ (false = true) by decide)] at H; exact H
       have H' := Aside0.mk H
       clear H
       have p161 : 0 ≤ (x11_1 : Int) := of_decide_eq_true zb3
       have q161 : x11_1 < (l0.length : Int) := of_decide_eq_true zb3
       obtain ⟨ad161, A161_2, c161_2, e161, hx161_0, hx161_1, hx161_2, hx161_3, hx161_4, hl161_2, hi161_2⟩ := at_T66 (Kd.V_reads' HO_9.out).2.2 x11_1 p161 q161
       cases e161
       obtain ⟨ce161, hce161, hMe161, hcc161⟩ := Kd.V_get HO_9.out z66 x11_1 p161 (by first | exact q161 | exact of_decide_eq_true zb3 | (have e_ := (Kd.V_reads' HO_9.out).1; omega))
       obtain ⟨ua161_2, uc161_2, rfl, ul161_2, ge161_2⟩ := k66_openF hMe161
       have hv161_2 := hcc161 2 _ rfl
       rw [add_field _ _ 2 zb42] at hv161_2
       replace hv161_2 := Option.some.inj (hv161_2.symm.trans hx161_2)
       injection hv161_2 with hva_ hvn_ hvc_
       rw [hva_] at ge161_2
       rw [hvc_] at ul161_2
       have HL161_2 := Aside0.mk (show Kd.V k50 50 _ w.heap.size _ _ ((rd_T66 l0 x11_1).f0.f2) from Kd.V_mk ul161_2 ge161_2)
       clear hva_ hvn_ hvc_ ge161_2 ul161_2
       clear hcc161 hce161
       have HR161_2 := Aside0.mk hi161_2
       have HC161_2 := Aside0.mk hl161_2
       clear hi161_2 hl161_2
       replace p161 := eq_true p161
       replace q161 := eq_true q161
       go_wp2_with (first | ((with_reducible refine gate_dst (N := 7) rfl ?_); refine box_event ?hg (N := 7) ?hd (cs := #[.string (⟨#[]⟩ : ByteArray), .string (⟨#[]⟩ : ByteArray), .slice none 0 0, .float .f64 0, .int .i64 0]) (t := 66) ?hr ?_; (case hd => rfl); (case hg => rfl); (case hr => first | (go_simp; done) | (go_simp; rfl)); intro gb162 hg w31 hbox hb; have n0_ := Aside0.mk (Kd.V_below (Kd.V_elderB (by (with_reducible repeat (first | apply Kd.V_alloc | apply Kd.V_drewN | apply Kd.V_drew)); exact HO_9.out) gb162 (Nat.le_of_eq hg.symm)) hb); have n1_ := Aside0.mk (Kd.V_below (Kd.V_elderB (by (with_reducible repeat (first | apply Kd.V_alloc | apply Kd.V_drewN | apply Kd.V_drew)); exact HO_161002.out) gb162 (Nat.le_of_eq hg.symm)) hb); have n2_ := Aside0.mk (Kd.V_below (Kd.V_elderB (by (with_reducible repeat (first | apply Kd.V_alloc | apply Kd.V_drewN | apply Kd.V_drew)); exact HL161_2.out) gb162 (Nat.le_of_eq hg.symm)) hb); have n3_ := Aside0.mk (blk_below (g := gb159) (o := .cells #[.string a1_0, .string a1_1, .slice A1_2 l1_2.length c1_2] 40 (0, 0)) zb10 hb); have n4_ := Aside0.mk (blk_below (g := gb160) (o := .cells #[.string x161000_1, .string x161001_1, u161002, .float .f64 x161003_1, .int .i64 x161004_1] 66 (0, 0)) zb12 hb); have n5_ := Aside0.mk (Kd.C_below zb46 hb); have n6_ := Aside0.mk (below_step zb8 hb); have n7_ := Aside0.mk (hbox); have n8_ := Aside0.mk ((by rw [hg]; exact (below_size zb8) : w.heap.size ≤ gb162)); have n9_ := Aside0.mk ((by rw [hg]; exact (below_size zb8) : w.heap.size ≤ gb162)); have n10_ := Aside0.mk ((by rw [hg]; exact Nat.ne_of_lt (blk_lt (g := gb159) (o := .cells #[.string a1_0, .string a1_1, .slice A1_2 l1_2.length c1_2] 40 (0, 0)) zb10) : gb159 ≠ gb162)); have n11_ := Aside0.mk ((by rw [hg]; exact Nat.ne_of_gt (blk_lt (g := gb159) (o := .cells #[.string a1_0, .string a1_1, .slice A1_2 l1_2.length c1_2] 40 (0, 0)) zb10) : gb162 ≠ gb159)); have n12_ := Aside0.mk ((by rw [hg]; exact Nat.ne_of_lt (blk_lt (g := gb160) (o := .cells #[.string x161000_1, .string x161001_1, u161002, .float .f64 x161003_1, .int .i64 x161004_1] 66 (0, 0)) zb12) : gb160 ≠ gb162)); have n13_ := Aside0.mk ((by rw [hg]; exact Nat.ne_of_gt (blk_lt (g := gb160) (o := .cells #[.string x161000_1, .string x161001_1, u161002, .float .f64 x161003_1, .int .i64 x161004_1] 66 (0, 0)) zb12) : gb162 ≠ gb160)); clear HO_9; clear HO_161002; clear HL161_2; clear BK159; clear BK160; clear HR161_2; clear HB; have HO_9 := n0_; have HO_161002 := n1_; have HL161_2 := n2_; have BK159 := n3_; have BK160 := n4_; have HR161_2 := n5_; have HB := n6_; have BK162 := n7_; have GW162 := n8_; have GE162 := n9_; have NB159_162 := n10_; have NB162_159 := n11_; have NB160_162 := n12_; have NB162_160 := n13_; clear n0_ n1_ n2_ n3_ n4_ n5_ n6_ n7_ n8_ n9_ n10_ n11_ n12_ n13_; clear hb hbox hg; have hnb32 := NB162_159.out; have hnc32 := NB159_162.out; have hnb33 := NB162_160.out; have hnc33 := NB160_162.out; have hcz34_0 : w31.cell? ⟨gb162, 0, none⟩ = some (.string (⟨#[]⟩ : ByteArray)) := (blk_cell BK162.out 0).trans rfl; have hcz34_1 : w31.cell? ⟨gb162, 1, none⟩ = some (.string (⟨#[]⟩ : ByteArray)) := (blk_cell BK162.out 1).trans rfl; have hcz34_2 : w31.cell? ⟨gb162, 2, none⟩ = some (.slice none 0 0) := (blk_cell BK162.out 2).trans rfl; have hcz34_3 : w31.cell? ⟨gb162, 3, none⟩ = some (.float .f64 0) := (blk_cell BK162.out 3).trans rfl; have hcz34_4 : w31.cell? ⟨gb162, 4, none⟩ = some (.int .i64 0) := (blk_cell BK162.out 4).trans rfl; have hfz34_0 := blk_frozen BK162.out 0; have hfz34_1 := blk_frozen BK162.out 1; have hfz34_2 := blk_frozen BK162.out 2; have hfz34_3 := blk_frozen BK162.out 3; have hfz34_4 := blk_frozen BK162.out 4; have hnb35 := NB159_160.out; have hnc35 := NB160_159.out; have hcz36_0 : w31.cell? ⟨gb159, 0, none⟩ = some (.string a1_0) := (blk_cell BK159.out 0).trans rfl; have hcz36_1 : w31.cell? ⟨gb159, 1, none⟩ = some (.string a1_1) := (blk_cell BK159.out 1).trans rfl; have hcz36_2 : w31.cell? ⟨gb159, 2, none⟩ = some (.slice A1_2 l1_2.length c1_2) := (blk_cell BK159.out 2).trans rfl; have hfz36_0 := blk_frozen BK159.out 0; have hfz36_1 := blk_frozen BK159.out 1; have hfz36_2 := blk_frozen BK159.out 2) | ((with_reducible refine gate_callee (f := 32) rfl ?_); refine goesL_ (some 18) rfl rfl Tryz.func32 zb9 rfl #[.agg #[.string ((rd_T66 l0 x11_1).f0.f0), .string ((rd_T66 l0 x11_1).f0.f1), .slice A161_2 ((rd_T66 l0 x11_1).f0.f2).length c161_2], .agg #[.string a1_0, .string a1_1, .slice A1_2 l1_2.length c1_2]] rfl zb2 ?_; (with_reducible refine (media_Fits.calls k1 ((rd_T66 l0 x11_1).f0.f0) ((rd_T66 l0 x11_1).f0.f1) _ _ ((rd_T66 l0 x11_1).f0.f2) a1_0 a1_1 _ _ l1_2 false _ ?side1 ?side2 ?side3 ?side4 A10.out).mono ?_); (case side1 => repeat (first | exact ((Kd.V_reads' zb5).2.2) | (with_reducible refine Kd.C_alloc ?_ _) | (with_reducible refine Kd.C_drewN ?_ _) | (with_reducible refine Kd.C_drew ?_))); (case side2 => exact HC161_2.out); (case side3 => exact Kd.C_below HR1_2.out zb7); (case side4 => exact HC1_2.out); rintro e w37 ⟨rfl, hb⟩; refine ⟨_, rfl, ?_⟩; have n0_ := Aside0.mk (Kd.V_below zb20 hb); have n1_ := Aside0.mk (Kd.V_below zb19 hb); have n2_ := Aside0.mk (Kd.V_below zb5 hb); have n3_ := Aside0.mk (blk_below (g := gb159) (o := .cells #[.string a1_0, .string a1_1, .slice A1_2 l1_2.length c1_2] 40 (0, 0)) zb17 hb); have n4_ := Aside0.mk (blk_below (g := gb160) (o := .cells #[.string x161000_1, .string x161001_1, u161002, .float .f64 x161003_1, .int .i64 x161004_1] 66 (0, 0)) zb16 hb); have n5_ := Aside0.mk (Kd.C_below ((Kd.V_reads' zb5).2.2) hb); have n6_ := Aside0.mk (blk_below (g := gb162) (o := .cells #[.string ((rd_T66 l0 x11_1).f0.f0), .string ((rd_T66 l0 x11_1).f0.f1), .slice A161_2 ((rd_T66 l0 x11_1).f0.f2).length c161_2, .float .f64 ((rd_T66 l0 x11_1).f1), .int .i64 ((rd_T66 l0 x11_1).f2)] 66 (0, 0)) zb11 hb); have n7_ := Aside0.mk (below_step zb7 hb); clear HO_9; clear HO_161002; clear HL161_2; clear BK159; clear BK160; clear HR161_2; clear BK162; clear HB; have HO_9 := n0_; have HO_161002 := n1_; have HL161_2 := n2_; have BK159 := n3_; have BK160 := n4_; have HR161_2 := n5_; have BK162 := n6_; have HB := n7_; clear n0_ n1_ n2_ n3_ n4_ n5_ n6_ n7_; (try clear hb); (try clear hb2); (try clear hk); (try clear hi)))
       go_roundg k1
       case measure => have := HK1.out; omega
       case rel => exact ⟨(wrap64 (x11_1 + 1)), (x161000_1), (x161001_1), (x161002_1), (x161003_1), (x161004_1), (u161002), zb4, H', ⟨by have := HK1.out; omega⟩, ⟨by (with_reducible repeat (first | apply Kd.V_alloc | apply Kd.V_drewN | apply Kd.V_drew)); exact Kd.V_mono HO_9.out (fun _ hk => ⟨hk.1.1, ⟨hk.1.2.1, hk.1.2.2⟩⟩)⟩, ⟨by (with_reducible repeat (first | apply Kd.V_alloc | apply Kd.V_drewN | apply Kd.V_drew)); exact Kd.V_mono HO_161002.out (fun _ hk => ⟨hk.1.1, ⟨hk.1.2.1, hk.1.2.2⟩⟩)⟩, ⟨by (with_reducible repeat (first | refine blk_drewN ?_ _ | refine blk_drew ?_ | refine blk_alloc ?_ _)); exact BK159.out⟩, ⟨by (with_reducible repeat (first | refine blk_drewN ?_ _ | refine blk_drew ?_ | refine blk_alloc ?_ _)); exact BK160.out⟩, ⟨by repeat (first | (with_reducible first | exact HB.out | apply below_alloc | apply pw_below_drewN | apply below_drew1 | refine below_set ?_ GE159.out | refine below_set ?_ GE160.out | refine below_set ?_ GE162.out) | exact HB.out)⟩⟩
     ·rw [if_neg c9] at H
      exact absurd H zb45
    ·rw [if_neg c8] at H
     exact absurd H zb45
   ·rw [if_neg c7] at H
    have c7b0 : decide (x11_1 < (l0.length : Int)) = false := decide_eq_false c7
    clear c7
    replace H := Option.bind_eq_some_iff.mp H
    obtain ⟨t164, A380, H⟩ := H
    replace H : (some t164) = some r := H
    have A38 := Aside0.mk A380
    clear A380
    obtain rfl := Option.some.inj H
    have hnb39 := NB160_159.out
    have hnc39 := NB159_160.out
    have hcz40_0 : wr.cell? ⟨gb160, 0, none⟩ = some (.string x161000_1) := (blk_cell BK160.out 0).trans rfl
    have hcz40_1 : wr.cell? ⟨gb160, 1, none⟩ = some (.string x161001_1) := (blk_cell BK160.out 1).trans rfl
    have hcz40_2 : wr.cell? ⟨gb160, 2, none⟩ = some (u161002) := (blk_cell BK160.out 2).trans rfl
    have hcz40_3 : wr.cell? ⟨gb160, 3, none⟩ = some (.float .f64 x161003_1) := (blk_cell BK160.out 3).trans rfl
    have hcz40_4 : wr.cell? ⟨gb160, 4, none⟩ = some (.int .i64 x161004_1) := (blk_cell BK160.out 4).trans rfl
    have hfz40_0 := blk_frozen BK160.out 0
    have hfz40_1 := blk_frozen BK160.out 1
    have hfz40_2 := blk_frozen BK160.out 2
    have hfz40_3 := blk_frozen BK160.out 3
    have hfz40_4 := blk_frozen BK160.out 4
    go_wp2_with (first | ((with_reducible refine gate_callee (f := 17) rfl ?_); refine goesL_ (some 30) rfl rfl Tryz.func17 zb9 rfl #[.float .f64 x161003_1] rfl zb2 ?_; (with_reducible refine (quality_Clamp.calls x161003_1 t164 _ A38.out).mono ?_); rintro e w' ⟨rfl, ⟨nd, rfl⟩⟩; refine ⟨_, rfl, ?_⟩))
    go_ret
    exact ⟨zb6, zb8⟩
def quality_Best.l0 : Nat → Int → Nat → List (S66) → List (S40) → Int → Int → Option (Int × Nat)
  | 0, _, _, _, _, _, _ => none
  | k + 1, x4, x5, x6, x12, x13, x14 => if x14 < x13 then (if 0 ≤ x14 then (if x14 < (x12.length : Int) then ((quality_weight.f k x6 ((rd_T40 x12 x14).f0) ((rd_T40 x12 x14).f1) ((rd_T40 x12 x14).f2)).bind fun t170 => (if (FloatKind.f64.format.order t170 x5 == some .gt) = true then (quality_Best.l0 k x14 t170 x6 x12 x13 (wrap64 (x14 + 1))) else (quality_Best.l0 k x4 x5 x6 x12 x13 (wrap64 (x14 + 1))))) else (none)) else (none)) else (some (x4, x5))
def quality_Best.f (k : Nat) (a0 : ByteArray) (l1 : List (S40)) : Option (Int × Nat) := (quality_ranges.f k a0).bind fun t165 => (quality_Best.l0 k (-1) 0 t165 l1 (l1.length : Int) 0)
set_option maxHeartbeats 8000000 in
set_option maxRecDepth 100000 in
theorem quality_Best.calls (k : Nat) (a0 : ByteArray) (A1 : Option Addr) (c1 : Nat) (l1 : List (S40)) (r1 : Int) (r2 : Nat) (w : World) (hr1 : Kd.C k40 w A1 l1.length l1) (hc1 : l1.length ≤ c1) (hG : Glob w) (h : quality_Best.f k a0 l1 = some (r1, r2)) :
  Calls Tryz.prog 7 #[.string a0, .slice A1 l1.length c1] w fun e w' => e = .returned (.tuple #[.int .i64 r1, .float .f64 r2]) ∧ Below w.heap.size w w' := by
 have hu40 := Tryz.underlying40
 have HR1 := Aside0.mk hr1
 have HC1 := Aside0.mk hc1
 clear hr1 hc1
 have HB := Aside0.mk (Below.refl w.heap.size w)
 have hGA := Aside0.mk hG
 clear hG
 have H : ((quality_ranges.f k a0).bind fun t165 => (quality_Best.l0 k (-1) 0 t165 l1 (l1.length : Int) 0)) = some (r1, r2) := h
 clear h
 replace H := Option.bind_eq_some_iff.mp H
 obtain ⟨t165, A30, H⟩ := H
 replace H : (quality_Best.l0 k (-1) 0 t165 l1 (l1.length : Int) 0) = some (r1, r2) := H
 have A3 := Aside0.mk A30
 clear A30
 have H' := Aside0.mk H
 clear H
 go_enter Tryz.func7, Tryz.ntmps7
 go_wp2_with (first | ((with_reducible refine gate_callee (f := 18) rfl ?_); refine goesL_ (some 11) rfl rfl Tryz.func18 zb9 rfl #[.string a0] rfl zb2 ?_; (with_reducible refine (quality_ranges.calls k a0 t165 _ ?side1 A3.out).mono ?_); (case side1 => exact Glob.below hGA.out zb0); rintro e w4 ⟨v166, rfl, ho0, hb⟩; refine ⟨_, rfl, ?_⟩; have n0_ := Aside0.mk (Kd.S_lower ho0 (below_size zb0)); have n1_ := Aside0.mk (below_step zb0 hb); clear HB; have HO167 := n0_; have HB := n1_; clear n0_ n1_; (try clear hb); (try clear hb2); (try clear hk); (try clear hi); (try clear ho0)))
 first | go_loopg [4, 5, 14] k (fun kq v4 v5 v14 w' => ∃ (x4_1 : Int) (x5_1 : Nat) (x14_1 : Int), v4 = .int .i64 x4_1 ∧ v5 = .float .f64 x5_1 ∧ v14 = .int .i64 x14_1 ∧ Aside0 (quality_Best.l0 kq x4_1 x5_1 t165 l1 (l1.length : Int) x14_1 = some (r1, r2)) ∧ Aside0 (kq ≤ k) ∧ Aside0 (Kd.S k66 66 w' w.heap.size (fun _ => True) v166 t165) ∧ Aside0 (Below w.heap.size w w')) | (go_simp; go_loopg [4, 5, 14] k (fun kq v4 v5 v14 w' => ∃ (x4_1 : Int) (x5_1 : Nat) (x14_1 : Int), v4 = .int .i64 x4_1 ∧ v5 = .float .f64 x5_1 ∧ v14 = .int .i64 x14_1 ∧ Aside0 (quality_Best.l0 kq x4_1 x5_1 t165 l1 (l1.length : Int) x14_1 = some (r1, r2)) ∧ Aside0 (kq ≤ k) ∧ Aside0 (Kd.S k66 66 w' w.heap.size (fun _ => True) v166 t165) ∧ Aside0 (Below w.heap.size w w')))
 case atStart => exact ⟨((-1)), (0), (0), zb4, zb4, zb4, H', ⟨Nat.le_refl _⟩, ⟨by (with_reducible repeat (first | apply Kd.S_alloc | apply Kd.S_drewN | apply Kd.S_drew)); exact HO167.out⟩, ⟨by repeat (first | (with_reducible first | exact HB.out | apply below_alloc | apply pw_below_drewN | apply below_drew1) | exact HB.out)⟩⟩
 case round =>
  clear H'
  try clear c1
  try clear p2
  obtain ⟨x4_1, x5_1, x14_1, rfl, rfl, rfl, HA, HK1, HO_6, HB⟩ := hrel
  cases gk with
  | zero => exact absurd HA.out (by simp [quality_Best.l0])
  | succ k1 =>
   have H := HA.out
   clear HA
   simp only [quality_Best.l0] at H
   by_cases c5 : x14_1 < (l1.length : Int)
   ·rw [if_pos c5] at H
    have c5b0 : decide (x14_1 < (l1.length : Int)) = true := decide_eq_true c5
    clear c5
    by_cases c6 : 0 ≤ x14_1
    ·rw [if_pos c6] at H
     have c6b0 : decide (0 ≤ x14_1) = true := decide_eq_true c6
     clear c6
     by_cases c7 : x14_1 < (l1.length : Int)
     ·rw [if_pos c7] at H
      have c7b0 : decide (x14_1 < (l1.length : Int)) = true := decide_eq_true c7
      clear c7
      replace H := Option.bind_eq_some_iff.mp H
      obtain ⟨t170, A80, H⟩ := H
      replace H : (if (FloatKind.f64.format.order t170 x5_1 == some .gt) = true then (quality_Best.l0 k1 x14_1 t170 t165 l1 (l1.length : Int) (wrap64 (x14_1 + 1))) else (quality_Best.l0 k1 x4_1 x5_1 t165 l1 (l1.length : Int) (wrap64 (x14_1 + 1)))) = some (r1, r2) := H
      have A8 := Aside0.mk A80
      clear A80
      by_cases c9 : (FloatKind.f64.format.order t170 x5_1 == some .gt) = true
      ·rw [if_pos c9] at H
       have c9b0 : (FloatKind.f64.format.order t170 x5_1 == some .gt) = true := c9
       (try (have c9b1 : decide (FloatKind.f64.format.order t170 x5_1 = some .gt) = true := by simpa using c9))
       (try (have c9b2 : (FloatKind.f64.format.order t170 x5_1 == some .gt) = true := by simpa using c9))
       clear c9
       have H' := Aside0.mk H
       clear H
       have p168 : 0 ≤ (x14_1 : Int) := of_decide_eq_true zb3
       have q168 : x14_1 < (l1.length : Int) := of_decide_eq_true zb3
       obtain ⟨ad168, A168_2, c168_2, e168, hx168_0, hx168_1, hx168_2, hl168_2, hi168_2⟩ := at_T40 HR1.out x14_1 p168 q168
       cases e168
       replace hx168_0 := (HB.out.cell (World.block_lt_of_cell? w _ hx168_0)).trans hx168_0
       replace hx168_1 := (HB.out.cell (World.block_lt_of_cell? w _ hx168_1)).trans hx168_1
       replace hx168_2 := (HB.out.cell (World.block_lt_of_cell? w _ hx168_2)).trans hx168_2
       have HR168_2 := Aside0.mk hi168_2
       have HC168_2 := Aside0.mk hl168_2
       clear hi168_2 hl168_2
       replace p168 := eq_true p168
       replace q168 := eq_true q168
       go_wp2_with (first | ((with_reducible refine gate_dst (N := 8) rfl ?_); refine box_event ?hg (N := 8) ?hd (cs := #[.string (⟨#[]⟩ : ByteArray), .string (⟨#[]⟩ : ByteArray), .slice none 0 0]) (t := 40) ?hr ?_; (case hd => rfl); (case hg => rfl); (case hr => first | (go_simp; done) | (go_simp; rfl)); intro gb169 hg w10 hbox hb; have n0_ := Aside0.mk (Kd.S_below zb39 hb); have n1_ := Aside0.mk (below_step zb0 hb); have n2_ := Aside0.mk (hbox); have n3_ := Aside0.mk ((by rw [hg]; exact (below_size zb0) : w.heap.size ≤ gb169)); have n4_ := Aside0.mk ((by rw [hg]; exact (below_size zb0) : w.heap.size ≤ gb169)); clear HO_6; clear HB; have HO_6 := n0_; have HB := n1_; have BK169 := n2_; have GW169 := n3_; have GE169 := n4_; clear n0_ n1_ n2_ n3_ n4_; clear hb hbox hg; have hcz11_0 : w10.cell? ⟨gb169, 0, none⟩ = some (.string (⟨#[]⟩ : ByteArray)) := (blk_cell BK169.out 0).trans rfl; have hcz11_1 : w10.cell? ⟨gb169, 1, none⟩ = some (.string (⟨#[]⟩ : ByteArray)) := (blk_cell BK169.out 1).trans rfl; have hcz11_2 : w10.cell? ⟨gb169, 2, none⟩ = some (.slice none 0 0) := (blk_cell BK169.out 2).trans rfl; have hfz11_0 := blk_frozen BK169.out 0; have hfz11_1 := blk_frozen BK169.out 1; have hfz11_2 := blk_frozen BK169.out 2) | ((with_reducible refine gate_store (t := 40) (p := 8) rfl ?_); refine store_event (t := 40) (p := 8) (v := ?vo_w12) (w1 := (((w10.setCell ⟨gb169, 0, none⟩ (.string ((rd_T40 l1 x14_1).f0))).setCell ⟨gb169, 1, none⟩ (.string ((rd_T40 l1 x14_1).f1))).setCell ⟨gb169, 2, none⟩ (.slice A168_2 ((rd_T40 l1 x14_1).f2).length c168_2))) ?hg ?ho ?hn ?hr ?_; (case ho => rfl); (case hg => rfl); (case hn => rfl); (case hr => first | (go_simp; done) | (go_simp; rfl)); intro w12 hw; have n0_ : Aside0 (Kd.S k66 66 w12 w.heap.size (fun _ => True) v166 t165) := ⟨zb43⟩; have n1_ : Aside0 (w12.heap[gb169]? = some (.cells #[.string ((rd_T40 l1 x14_1).f0), .string ((rd_T40 l1 x14_1).f1), .slice A168_2 ((rd_T40 l1 x14_1).f2).length c168_2] 40 (0, 0))) := ⟨zb34⟩; have n2_ : Aside0 (Below w.heap.size w w12) := ⟨(by rw [hw]; exact zb41)⟩; clear hw; clear HO_6; clear BK169; clear HB; have HO_6 := n0_; have BK169 := n1_; have HB := n2_; clear n0_ n1_ n2_; have hcz13_0 : w12.cell? ⟨gb169, 0, none⟩ = some (.string ((rd_T40 l1 x14_1).f0)) := (blk_cell BK169.out 0).trans rfl; have hcz13_1 : w12.cell? ⟨gb169, 1, none⟩ = some (.string ((rd_T40 l1 x14_1).f1)) := (blk_cell BK169.out 1).trans rfl; have hcz13_2 : w12.cell? ⟨gb169, 2, none⟩ = some (.slice A168_2 ((rd_T40 l1 x14_1).f2).length c168_2) := (blk_cell BK169.out 2).trans rfl; have hfz13_0 := blk_frozen BK169.out 0; have hfz13_1 := blk_frozen BK169.out 1; have hfz13_2 := blk_frozen BK169.out 2; obtain ⟨Ao14, co14, eo14⟩ := Kd.S_slice HO_6.out; subst eo14) | ((with_reducible refine gate_callee (f := 19) rfl ?_); refine goesL_ (some 21) rfl rfl Tryz.func19 zb9 rfl #[.slice Ao14 t165.length co14, .agg #[.string ((rd_T40 l1 x14_1).f0), .string ((rd_T40 l1 x14_1).f1), .slice A168_2 ((rd_T40 l1 x14_1).f2).length c168_2]] rfl zb2 ?_; (with_reducible refine (quality_weight.calls k1 (fun k_ => (True ∧ k_ ≠ gb169)) _ _ t165 ((rd_T40 l1 x14_1).f0) ((rd_T40 l1 x14_1).f1) _ _ ((rd_T40 l1 x14_1).f2) t170 _ ?side1 ?side2 ?side3 A8.out).mono ?_); (case side1 => exact Kd.S_V (Kd.S_types (HO_6.out) BK169.out zb47)); (case side2 => repeat (first | exact (Kd.C_below HR168_2.out HB.out) | (with_reducible refine Kd.C_alloc ?_ _) | (with_reducible refine Kd.C_drewN ?_ _) | (with_reducible refine Kd.C_drew ?_))); (case side3 => exact HC168_2.out); rintro e w15 ⟨rfl, hb⟩; refine ⟨_, rfl, ?_⟩; have n0_ := Aside0.mk (Kd.S_below zb39 hb); have n1_ := Aside0.mk (blk_below (g := gb169) (o := .cells #[.string ((rd_T40 l1 x14_1).f0), .string ((rd_T40 l1 x14_1).f1), .slice A168_2 ((rd_T40 l1 x14_1).f2).length c168_2] 40 (0, 0)) (by (with_reducible repeat (first | refine blk_drewN ?_ _ | refine blk_drew ?_ | refine blk_alloc ?_ _)); exact BK169.out) hb); have n2_ := Aside0.mk (below_step zb41 hb); clear HO_6; clear BK169; clear HB; have HO_6 := n0_; have BK169 := n1_; have HB := n2_; clear n0_ n1_ n2_; (try clear hb); (try clear hb2); (try clear hk); (try clear hi)))
       go_roundg k1
       case measure => have := HK1.out; omega
       case rel => exact ⟨(x14_1), (t170), (wrap64 (x14_1 + 1)), zb4, zb4, zb4, H', ⟨by have := HK1.out; omega⟩, ⟨by (with_reducible repeat (first | apply Kd.S_alloc | apply Kd.S_drewN | apply Kd.S_drew)); exact HO_6.out⟩, ⟨by repeat (first | (with_reducible first | exact HB.out | apply below_alloc | apply pw_below_drewN | apply below_drew1 | refine below_set ?_ GE169.out) | exact HB.out)⟩⟩
      ·rw [if_neg c9] at H
       have c9b0 : (FloatKind.f64.format.order t170 x5_1 == some .gt) = false := by simpa using c9
       (try (have c9b1 : decide (FloatKind.f64.format.order t170 x5_1 = some .gt) = false := by simpa using c9))
       (try (have c9b2 : (FloatKind.f64.format.order t170 x5_1 == some .gt) = false := by simpa using c9))
       (try (have c9b3 : ¬ (FloatKind.f64.format.order t170 x5_1 = some .gt) := by simpa using c9))
       clear c9
       have H' := Aside0.mk H
       clear H
       have p168 : 0 ≤ (x14_1 : Int) := of_decide_eq_true zb3
       have q168 : x14_1 < (l1.length : Int) := of_decide_eq_true zb3
       obtain ⟨ad168, A168_2, c168_2, e168, hx168_0, hx168_1, hx168_2, hl168_2, hi168_2⟩ := at_T40 HR1.out x14_1 p168 q168
       cases e168
       replace hx168_0 := (HB.out.cell (World.block_lt_of_cell? w _ hx168_0)).trans hx168_0
       replace hx168_1 := (HB.out.cell (World.block_lt_of_cell? w _ hx168_1)).trans hx168_1
       replace hx168_2 := (HB.out.cell (World.block_lt_of_cell? w _ hx168_2)).trans hx168_2
       have HR168_2 := Aside0.mk hi168_2
       have HC168_2 := Aside0.mk hl168_2
       clear hi168_2 hl168_2
       replace p168 := eq_true p168
       replace q168 := eq_true q168
       go_wp2_with (first | ((with_reducible refine gate_dst (N := 8) rfl ?_); refine box_event ?hg (N := 8) ?hd (cs := #[.string (⟨#[]⟩ : ByteArray), .string (⟨#[]⟩ : ByteArray), .slice none 0 0]) (t := 40) ?hr ?_; (case hd => rfl); (case hg => rfl); (case hr => first | (go_simp; done) | (go_simp; rfl)); intro gb169 hg w16 hbox hb; have n0_ := Aside0.mk (Kd.S_below zb39 hb); have n1_ := Aside0.mk (below_step zb0 hb); have n2_ := Aside0.mk (hbox); have n3_ := Aside0.mk ((by rw [hg]; exact (below_size zb0) : w.heap.size ≤ gb169)); have n4_ := Aside0.mk ((by rw [hg]; exact (below_size zb0) : w.heap.size ≤ gb169)); clear HO_6; clear HB; have HO_6 := n0_; have HB := n1_; have BK169 := n2_; have GW169 := n3_; have GE169 := n4_; clear n0_ n1_ n2_ n3_ n4_; clear hb hbox hg; have hcz17_0 : w16.cell? ⟨gb169, 0, none⟩ = some (.string (⟨#[]⟩ : ByteArray)) := (blk_cell BK169.out 0).trans rfl; have hcz17_1 : w16.cell? ⟨gb169, 1, none⟩ = some (.string (⟨#[]⟩ : ByteArray)) := (blk_cell BK169.out 1).trans rfl; have hcz17_2 : w16.cell? ⟨gb169, 2, none⟩ = some (.slice none 0 0) := (blk_cell BK169.out 2).trans rfl; have hfz17_0 := blk_frozen BK169.out 0; have hfz17_1 := blk_frozen BK169.out 1; have hfz17_2 := blk_frozen BK169.out 2) | ((with_reducible refine gate_store (t := 40) (p := 8) rfl ?_); refine store_event (t := 40) (p := 8) (v := ?vo_w18) (w1 := (((w16.setCell ⟨gb169, 0, none⟩ (.string ((rd_T40 l1 x14_1).f0))).setCell ⟨gb169, 1, none⟩ (.string ((rd_T40 l1 x14_1).f1))).setCell ⟨gb169, 2, none⟩ (.slice A168_2 ((rd_T40 l1 x14_1).f2).length c168_2))) ?hg ?ho ?hn ?hr ?_; (case ho => rfl); (case hg => rfl); (case hn => rfl); (case hr => first | (go_simp; done) | (go_simp; rfl)); intro w18 hw; have n0_ : Aside0 (Kd.S k66 66 w18 w.heap.size (fun _ => True) v166 t165) := ⟨zb43⟩; have n1_ : Aside0 (w18.heap[gb169]? = some (.cells #[.string ((rd_T40 l1 x14_1).f0), .string ((rd_T40 l1 x14_1).f1), .slice A168_2 ((rd_T40 l1 x14_1).f2).length c168_2] 40 (0, 0))) := ⟨zb34⟩; have n2_ : Aside0 (Below w.heap.size w w18) := ⟨(by rw [hw]; exact zb41)⟩; clear hw; clear HO_6; clear BK169; clear HB; have HO_6 := n0_; have BK169 := n1_; have HB := n2_; clear n0_ n1_ n2_; have hcz19_0 : w18.cell? ⟨gb169, 0, none⟩ = some (.string ((rd_T40 l1 x14_1).f0)) := (blk_cell BK169.out 0).trans rfl; have hcz19_1 : w18.cell? ⟨gb169, 1, none⟩ = some (.string ((rd_T40 l1 x14_1).f1)) := (blk_cell BK169.out 1).trans rfl; have hcz19_2 : w18.cell? ⟨gb169, 2, none⟩ = some (.slice A168_2 ((rd_T40 l1 x14_1).f2).length c168_2) := (blk_cell BK169.out 2).trans rfl; have hfz19_0 := blk_frozen BK169.out 0; have hfz19_1 := blk_frozen BK169.out 1; have hfz19_2 := blk_frozen BK169.out 2; obtain ⟨Ao20, co20, eo20⟩ := Kd.S_slice HO_6.out; subst eo20) | ((with_reducible refine gate_callee (f := 19) rfl ?_); refine goesL_ (some 21) rfl rfl Tryz.func19 zb9 rfl #[.slice Ao20 t165.length co20, .agg #[.string ((rd_T40 l1 x14_1).f0), .string ((rd_T40 l1 x14_1).f1), .slice A168_2 ((rd_T40 l1 x14_1).f2).length c168_2]] rfl zb2 ?_; (with_reducible refine (quality_weight.calls k1 (fun k_ => (True ∧ k_ ≠ gb169)) _ _ t165 ((rd_T40 l1 x14_1).f0) ((rd_T40 l1 x14_1).f1) _ _ ((rd_T40 l1 x14_1).f2) t170 _ ?side1 ?side2 ?side3 A8.out).mono ?_); (case side1 => exact Kd.S_V (Kd.S_types (HO_6.out) BK169.out zb47)); (case side2 => repeat (first | exact (Kd.C_below HR168_2.out HB.out) | (with_reducible refine Kd.C_alloc ?_ _) | (with_reducible refine Kd.C_drewN ?_ _) | (with_reducible refine Kd.C_drew ?_))); (case side3 => exact HC168_2.out); rintro e w21 ⟨rfl, hb⟩; refine ⟨_, rfl, ?_⟩; have n0_ := Aside0.mk (Kd.S_below zb39 hb); have n1_ := Aside0.mk (blk_below (g := gb169) (o := .cells #[.string ((rd_T40 l1 x14_1).f0), .string ((rd_T40 l1 x14_1).f1), .slice A168_2 ((rd_T40 l1 x14_1).f2).length c168_2] 40 (0, 0)) (by (with_reducible repeat (first | refine blk_drewN ?_ _ | refine blk_drew ?_ | refine blk_alloc ?_ _)); exact BK169.out) hb); have n2_ := Aside0.mk (below_step zb41 hb); clear HO_6; clear BK169; clear HB; have HO_6 := n0_; have BK169 := n1_; have HB := n2_; clear n0_ n1_ n2_; (try clear hb); (try clear hb2); (try clear hk); (try clear hi)))
       go_roundg k1
       case measure => have := HK1.out; omega
       case rel => exact ⟨(x4_1), (x5_1), (wrap64 (x14_1 + 1)), zb4, zb4, zb4, H', ⟨by have := HK1.out; omega⟩, ⟨by (with_reducible repeat (first | apply Kd.S_alloc | apply Kd.S_drewN | apply Kd.S_drew)); exact HO_6.out⟩, ⟨by repeat (first | (with_reducible first | exact HB.out | apply below_alloc | apply pw_below_drewN | apply below_drew1 | refine below_set ?_ GE169.out) | exact HB.out)⟩⟩
     ·rw [if_neg c7] at H
      exact absurd H zb45
    ·rw [if_neg c6] at H
     exact absurd H zb45
   ·rw [if_neg c5] at H
    have c5b0 : decide (x14_1 < (l1.length : Int)) = false := decide_eq_false c5
    clear c5
    simp only [Option.some.injEq, Prod.mk.injEq] at H
    obtain ⟨rfl, rfl⟩ := H
    go_wp2
    go_ret2
    exact ⟨zb6, zb0⟩
end Go.Proofs.YtghfbhobpodoeaaGreatDoor.P
/- SpQc -/
namespace Go.Proofs.YtghfbhobpodoeaaGreatDoor.Sp
open Go Go.RowKit Go.Proofs.YtghfbhobpodoeaaGreatDoorW.PrintWords Go.Proofs.YtghfbhobpodoeaaGreatDoorW.PrintLast Go.Proofs.YtghfbhobpodoeaaGreatDoor.O Go.Proofs.YtghfbhobpodoeaaGreatDoor.P
set_option linter.unusedVariables false
set_option linter.unusedSimpArgs false
theorem quoted_vl : ∀ (s : L) (p : L × L), quoted s = some p → p.1.length ≤ s.length
  | [], _, h => by simp [quoted] at h
  | c :: r, p, h => by
    unfold quoted at h
    split at h
    · have := Option.some.inj h; subst this; simp
    · split at h
      · split at h
        · simp at h
        · rename_i d r'
          split at h
          · simp at h
          · obtain ⟨q, hq, rfl⟩ := Option.map_eq_some_iff.1 h
            have := quoted_vl r' q hq
            simp only [List.length_cons]
            omega
      · split at h
        · simp at h
        · obtain ⟨q, hq, rfl⟩ := Option.map_eq_some_iff.1 h
          have := quoted_vl r q hq
          simp only [List.length_cons]
          omega
theorem value_vl (s v r : L) (h : value s = some (v, r)) : v.length ≤ s.length := by
  unfold value at h
  split at h
  · have := quoted_vl _ _ h
    rw [List.length_tail] at this
    simp only at this
    omega
  · split at h
    · simp at h
    · have e := Option.some.inj h
      have := tok_len s
      rw [e] at this
      simp only at this
      omega
def PSm (N : Nat) (l : List (L × L)) : Prop := ∀ p ∈ l, p.1.length ≤ N ∧ p.2.length ≤ N
theorem params_sm (N : Nat) : ∀ (f : Nat) (s : L) (l : List (L × L)), params f s = some l → s.length ≤ N → PSm N l ∧ l.length ≤ s.length := by
  intro f
  induction f with
  | zero => intro s l h; simp [params] at h
  | succ f ih =>
    intro s l h hs
    unfold params at h
    split at h
    · obtain rfl := Option.some.inj h
      exact ⟨fun p hp => by simp at hp, by simp⟩
    · split at h
      · simp at h
      · split at h
        · simp at h
        · split at h
          · simp at h
          · rename_i h1 h2 h3 h4
            have l1 := skip_len s
            have l2 := skip_len (skip s).tail
            have l3 := tok_len (skip (skip s).tail)
            have l4 : (skip s).tail.length + 1 = (skip s).length := by
              cases hk : skip s with
              | nil => exact absurd hk h1
              | cons c r => rfl
            split at h
            · simp at h
            · rename_i v rest hv
              obtain ⟨l', hl', rfl⟩ := Option.map_eq_some_iff.1 h
              have l5 := value_len _ _ _ hv
              have l6 := value_vl _ _ _ hv
              rw [List.length_tail] at l5 l6
              obtain ⟨a, b⟩ := ih rest l' hl' (by omega)
              refine ⟨fun p hp => ?_, by rw [List.length_cons]; omega⟩
              rcases List.mem_cons.1 hp with rfl | hp
              · rw [low_len]
                simp only
                omega
              · exact a p hp
structure MSm (N : Nat) (m : Med) : Prop where
  t : m.t.length ≤ N
  s : m.s.length ≤ N
  n : m.ps.length ≤ N
  p : PSm N m.ps
theorem mparse_sm (N : Nat) (s : L) (m : Med) (h : mparse s = some m) (hs : s.length ≤ N) : MSm N m := by
  unfold mparse at h
  split at h
  · simp at h
  · split at h
    · simp at h
    · split at h
      · simp at h
      · rename_i l hl
        split at h
        · simp at h
        · split at h
          · simp at h
          · obtain rfl := Option.some.inj h
            have l1 := skip_len s
            have l2 := tok_len (skip s)
            have l3 : (tok (skip s)).2.tail.length ≤ (tok (skip s)).2.length := by rw [List.length_tail]; omega
            have l4 := tok_len (tok (skip s)).2.tail
            obtain ⟨a, b⟩ := params_sm N _ _ _ hl (by omega)
            exact ⟨by rw [low_len]; omega, by rw [low_len]; omega, by show l.length ≤ N; omega, a⟩
theorem putQ_mem (cur : L) (out : List L) (x : L) (h : x ∈ putQ cur out) : x ∈ out ∨ x = cur := by
  unfold putQ at h
  split at h
  · exact .inl h
  · rcases List.mem_append.1 h with h | h
    · exact .inl h
    · exact .inr (by simpa using h)
theorem putQ_len (cur : L) (out : List L) : (putQ cur out).length ≤ out.length + 1 := by unfold putQ; split <;> simp
theorem spl_sm : ∀ (n : Nat) (s : L) (q : Bool) (cur : L) (out : List L), s.length ≤ n → (∀ x ∈ splL s q cur out, x ∈ out ∨ x.length ≤ cur.length + s.length) ∧ (splL s q cur out).length ≤ out.length + s.length + 1 := by
  intro n
  induction n with
  | zero =>
    intro s q cur out h
    obtain rfl : s = [] := List.eq_nil_of_length_eq_zero (by omega)
    refine ⟨fun x hx => ?_, by simpa [splL] using putQ_len cur out⟩
    rcases putQ_mem cur out x hx with h | rfl
    · exact .inl h
    · exact .inr (by simp)
  | succ n ih =>
    intro s q cur out h
    cases s with
    | nil =>
      refine ⟨fun x hx => ?_, by simpa [splL] using putQ_len cur out⟩
      rcases putQ_mem cur out x hx with h | rfl
      · exact .inl h
      · exact .inr (by simp)
    | cons c r =>
      rw [List.length_cons] at h
      unfold splL
      split
      · obtain ⟨a, b⟩ := ih r (!q) (cur ++ [c]) out (by omega)
        refine ⟨fun x hx => (a x hx).imp id (fun h => by simp at h ⊢; omega), by simp; omega⟩
      · split
        · cases r with
          | nil =>
            simp only
            refine ⟨fun x hx => ?_, by have := putQ_len (cur ++ [c]) out; simp; omega⟩
            rcases putQ_mem _ out x hx with h | rfl
            · exact .inl h
            · exact .inr (by simp)
          | cons d r' =>
            simp only
            rw [List.length_cons] at h
            obtain ⟨a, b⟩ := ih r' q (cur ++ [c, d]) out (by omega)
            refine ⟨fun x hx => (a x hx).imp id (fun h => by simp at h ⊢; omega), by simp; omega⟩
        · split
          · obtain ⟨a, b⟩ := ih r q [] (putQ cur out) (by omega)
            have := putQ_len cur out
            refine ⟨fun x hx => ?_, by simp; omega⟩
            rcases a x hx with h | h
            · rcases putQ_mem cur out x h with h | rfl
              · exact .inl h
              · exact .inr (by simp)
            · exact .inr (by simp at h ⊢; omega)
          · obtain ⟨a, b⟩ := ih r q (cur ++ [c]) out (by omega)
            refine ⟨fun x hx => (a x hx).imp id (fun h => by simp at h ⊢; omega), by simp; omega⟩
theorem split_sm (s : L) : (∀ x ∈ split s, x.length ≤ s.length) ∧ (split s).length ≤ s.length + 1 := by
  obtain ⟨a, b⟩ := spl_sm s.length s false [] [] (Nat.le_refl _)
  exact ⟨fun x hx => (a x hx).elim (fun h => by simp at h) (fun h => by simpa using h), by simpa [split] using b⟩
theorem rngF (t : L) (k : Nat) (ht : t.length ≤ 1000000) (hk : 5000000 ≤ k) : rngOne k (mk t) = some ((rngL t).map rngB) := by
  unfold rngOne rngL
  obtain ⟨q, hq, hp⟩ := mparseF t k (by omega) (by omega)
  rw [hq]
  simp only [Option.bind_some]
  cases hm : mparse t with
  | none =>
    rw [hm] at hp
    have e : q.2.2.2 = 130 := hp
    rw [if_neg (by rw [e]; decide)]
    rfl
  | some m =>
    rw [hm] at hp
    obtain rfl : q = (mk m.t, mk m.s, pairsB m.ps, 0) := hp
    have hs := mparse_sm 1000000 t m hm ht
    simp only [if_true]
    rw [show (⟨#[113]⟩ : ByteArray) = mk [113] from rfl, paramF _ _ m.ps [113] k (by have := hs.n; omega) (by have := hs.n; omega)]
    simp only [Option.bind_some]
    cases hv : param m.ps [113] with
    | none =>
      simp only [Bool.false_eq_true, if_false, Option.bind_some, Option.map_some]
      rw [narrow_eq]
      simp only [rngB, medB, hv]
    | some v =>
      have hvl : v.length ≤ 1000000 := by
        unfold param at hv
        obtain ⟨p, hp, rfl⟩ := Option.map_eq_some_iff.1 hv
        exact (hs.p p (List.mem_of_find?_eq_some hp)).2
      simp only [if_true]
      rw [weiF v (by omega)]
      simp only [Option.bind_some, Option.map_some]
      rw [narrow_eq]
      simp only [rngB, medB, hv]
theorem rngsF (k : Nat) (hk : 5000000 ≤ k) : ∀ (l : List L) (out : List S66), (∀ x ∈ l, x.length ≤ 1000000) → rngs k (l.map mk) out = some (out ++ (l.filterMap rngL).map rngB) := by
  intro l
  induction l with
  | nil => intro out _; simp [rngs]
  | cons t r ih =>
    intro out h
    rw [List.map_cons, rngs, rngF t k (h t List.mem_cons_self) hk, Option.bind_some]
    have h' : ∀ x ∈ r, x.length ≤ 1000000 := fun x hx => h x (List.mem_cons_of_mem _ hx)
    cases hr : rngL t with
    | none => simp only [Option.map_none]; rw [ih out h', List.filterMap_cons_none hr]
    | some x => simp only [Option.map_some]; rw [ih _ h', List.filterMap_cons_some hr]; simp
theorem rangesF (s : L) (k : Nat) (hs : s.length ≤ 1000000) (hk : 5000000 ≤ k) : quality_ranges.f k (mk s) = some ((rangesL s).map rngB) := by
  unfold quality_ranges.f
  rw [splitF s (by omega), Option.bind_some, List.length_map, if_pos (by have := (split_sm s).2; omega), rngsF k hk _ _ (fun x hx => by have := (split_sm s).1 x hx; omega)]
  rfl
theorem ranges_sm (s : L) : (rangesL s).length ≤ s.length + 1 ∧ ∀ r ∈ rangesL s, MSm s.length r.m := by
  constructor
  · exact Nat.le_trans (List.length_filterMap_le _ _) (split_sm s).2
  · intro r hr
    obtain ⟨t, ht, h⟩ := List.mem_filterMap.1 hr
    obtain ⟨m, hm, rfl⟩ := Option.map_eq_some_iff.1 h
    exact mparse_sm _ t m hm ((split_sm s).1 t ht)
def fitQ (x y : L) : Bool := x == [42] || x == y
def fitP (m : Med) (p : L × L) : Bool := p.1 == [113] || (match param m.ps p.1 with
  | some v => low v == low p.2
  | none => false)
def fitsL (r m : Med) : Bool := fitQ r.t m.t && fitQ r.s m.s && r.ps.all (fitP m)
theorem fits_l0 (r m : Med) (hr : MSm 1000000 r) (hm : MSm 1000000 m) (a b : ByteArray) : ∀ (d k i : Nat), i + d = r.ps.length → d + 2000000 ≤ k →
    media_FitsP.l0 k (pairsB r.ps) ((pairsB r.ps).length : Int) (i : Int) a b (pairsB m.ps) = some ((r.ps.drop i).all (fitP m)) := by
  have hn := hr.n
  have hmn := hm.n
  intro d
  induction d with
  | zero =>
    intro k i hi hk
    obtain ⟨k, rfl⟩ : ∃ m, k = m + 1 := ⟨k - 1, by omega⟩
    rw [media_FitsP.l0, if_neg (by rw [pairsB_len]; omega), List.drop_eq_nil_of_le (by omega)]
    rfl
  | succ d ih =>
    intro k i hi hk
    obtain ⟨k, rfl⟩ : ∃ m, k = m + 1 := ⟨k - 1, by omega⟩
    have hlt : i < r.ps.length := by omega
    have hp := hr.p r.ps[i] (List.getElem_mem hlt)
    rw [media_FitsP.l0, if_pos (by rw [pairsB_len]; omega), if_pos (by omega), if_pos (by rw [pairsB_len]; omega), rdp r.ps i r.ps[i] (List.getElem?_eq_getElem hlt), List.drop_eq_getElem_cons hlt]
    generalize r.ps[i] = p at *
    simp only
    rw [paramF a b m.ps p.1 k (by omega) (by omega), Option.bind_some, tl_mk, w1_ i (by omega)]
    rw [List.all_cons]
    by_cases h : p.1 = [113]
    · rw [if_pos h, ih k (i + 1) (by omega) (by omega)]
      have : fitP m p = true := by unfold fitP; rw [h]; rfl
      rw [this, Bool.true_and]
    · rw [if_neg h]
      have hb : (p.1 == [113]) = false := by simpa using h
      cases hv : param m.ps p.1 with
      | none =>
        simp only [Bool.false_eq_true, if_false]
        have : fitP m p = false := by unfold fitP; rw [hb, hv]; rfl
        rw [this, Bool.false_and]
      | some v =>
        have hvl : v.length ≤ 1000000 := by
          unfold param at hv
          obtain ⟨q, hq, rfl⟩ := Option.map_eq_some_iff.1 hv
          exact (hm.p q (List.mem_of_find?_eq_some hq)).2
        simp only [if_true]
        rw [lowF v (by omega), Option.bind_some, lowF p.2 (by omega), Option.bind_some, tl_mk, tl_mk]
        have hf : fitP m p = (low v == low p.2) := by unfold fitP; rw [hb, hv]; rfl
        by_cases he : low v = low p.2
        · rw [if_pos he, ih k (i + 1) (by omega) (by omega), hf, he]
          simp
        · rw [if_neg he, hf]
          have : (low v == low p.2) = false := by simpa using he
          rw [this]
          rfl
theorem fitB_mk (x y : L) : fitB (mk x) (mk y) = fitQ x y := by unfold fitB fitQ; rw [tl_mk, tl_mk]
theorem fitsF (r m : Med) (k : Nat) (hr : MSm 1000000 r) (hm : MSm 1000000 m) (hk : 3000000 ≤ k) : media_Fits.f k (mk r.t) (mk r.s) (pairsB r.ps) (mk m.t) (mk m.s) (pairsB m.ps) = some (fitsL r m) := by
  unfold media_Fits.f media_FitsP.f fitsL
  rw [fitB_mk, fitB_mk]
  have h0 := fits_l0 r m hr hm (mk m.t) (mk m.s) r.ps.length k 0 (by omega) (by have := hr.n; omega)
  rw [List.drop_zero] at h0
  cases fitQ r.t m.t
  · rfl
  · cases fitQ r.s m.s
    · rfl
    · rw [if_pos rfl, if_pos rfl]
      exact h0
def pickL (m : Med) : List Rng → Nat → Int → Nat
  | [], w, _ => w
  | r :: l, w, n => if fitsL r.m m = true ∧ r.n > n then pickL m l r.w r.n else pickL m l w n
def weightL (l : List Rng) (m : Med) : Nat := clampW (pickL m l 0 (-1))
theorem rdr (l : List Rng) (i : Nat) (r : Rng) (h : l[i]? = some r) : rd_T66 (l.map rngB) (i : Int) = rngB r := by
  unfold rd_T66
  rw [Int.toNat_natCast, List.getD_eq_getElem?_getD, List.getElem?_map, h]
  rfl
theorem weight_l0 (l : List Rng) (m : Med) (hl : l.length ≤ 1000001) (hs : ∀ r ∈ l, MSm 1000000 r.m) (hm : MSm 1000000 m) : ∀ (d k i : Nat) (b0 b1 : ByteArray) (b2 : List S50) (w : Nat) (n : Int), i + d = l.length → d + 4000000 ≤ k →
    quality_weight.l0 k (l.map rngB) ((l.map rngB).length : Int) (i : Int) (mk m.t) (mk m.s) (pairsB m.ps) b0 b1 b2 w n = some (clampW (pickL m (l.drop i) w n)) := by
  intro d
  induction d with
  | zero =>
    intro k i b0 b1 b2 w n hi hk
    obtain ⟨k, rfl⟩ : ∃ m, k = m + 1 := ⟨k - 1, by omega⟩
    rw [quality_weight.l0, if_neg (by rw [List.length_map]; omega), List.drop_eq_nil_of_le (by omega)]
    rfl
  | succ d ih =>
    intro k i b0 b1 b2 w n hi hk
    obtain ⟨k, rfl⟩ : ∃ m, k = m + 1 := ⟨k - 1, by omega⟩
    have hlt : i < l.length := by omega
    have hr := hs l[i] (List.getElem_mem hlt)
    rw [quality_weight.l0, if_pos (by rw [List.length_map]; omega), if_pos (by omega), if_pos (by rw [List.length_map]; omega), rdr l i l[i] (List.getElem?_eq_getElem hlt), List.drop_eq_getElem_cons hlt]
    generalize l[i] = r at *
    show (media_Fits.f k (mk r.m.t) (mk r.m.s) (pairsB r.m.ps) (mk m.t) (mk m.s) (pairsB m.ps)).bind _ = _
    rw [fitsF r.m m k hr hm (by omega), Option.bind_some, w1_ i (by omega), pickL]
    by_cases h : fitsL r.m m = true
    · rw [if_pos h]
      by_cases hn : r.n > n
      · rw [if_pos (show (rngB r).f2 > n from hn), if_pos ⟨h, hn⟩, ih k (i + 1) _ _ _ _ _ (by omega) (by omega)]
        rfl
      · rw [if_neg (show ¬ (rngB r).f2 > n from hn), if_neg (show ¬ (fitsL r.m m = true ∧ r.n > n) from fun x => hn x.2), ih k (i + 1) _ _ _ _ _ (by omega) (by omega)]
    · rw [if_neg h, if_neg (fun x => h x.1), ih k (i + 1) _ _ _ _ _ (by omega) (by omega)]
theorem weightF (l : List Rng) (m : Med) (k : Nat) (hl : l.length ≤ 1000001) (hs : ∀ r ∈ l, MSm 1000000 r.m) (hm : MSm 1000000 m) (hk : 6000000 ≤ k) : quality_weight.f k (l.map rngB) (mk m.t) (mk m.s) (pairsB m.ps) = some (weightL l m) := by
  unfold quality_weight.f weightL
  have := weight_l0 l m hl hs hm l.length k 0 (⟨#[]⟩ : ByteArray) (⟨#[]⟩ : ByteArray) [] 0 (-1) (by omega) (by omega)
  simpa using this
def bestL (l : List Rng) : List Med → Nat → Int → Nat → Int × Nat
  | [], _, a, w => (a, w)
  | m :: h, i, a, w => if (FloatKind.f64.format.order (weightL l m) w == some .gt) = true then bestL l h (i + 1) i (weightL l m) else bestL l h (i + 1) a w
def best (s : L) (h : List Med) : Int × Nat := bestL (rangesL s) h 0 (-1) 0
theorem rdm (l : List Med) (i : Nat) (m : Med) (h : l[i]? = some m) : rd_T40 (l.map medB) (i : Int) = medB m := by
  unfold rd_T40
  rw [Int.toNat_natCast, List.getD_eq_getElem?_getD, List.getElem?_map, h]
  rfl
theorem best_l0 (l : List Rng) (h : List Med) (hl : l.length ≤ 1000001) (hs : ∀ r ∈ l, MSm 1000000 r.m) (hh : ∀ m ∈ h, MSm 1000000 m) (hhl : h.length ≤ 1000000) : ∀ (d k i : Nat) (a : Int) (w : Nat), i + d = h.length → d + 6000000 ≤ k →
    quality_Best.l0 k a w (l.map rngB) (h.map medB) ((h.map medB).length : Int) (i : Int) = some (bestL l (h.drop i) i a w) := by
  intro d
  induction d with
  | zero =>
    intro k i a w hi hk
    obtain ⟨k, rfl⟩ : ∃ m, k = m + 1 := ⟨k - 1, by omega⟩
    rw [quality_Best.l0, if_neg (by rw [List.length_map]; omega), List.drop_eq_nil_of_le (by omega)]
    rfl
  | succ d ih =>
    intro k i a w hi hk
    obtain ⟨k, rfl⟩ : ∃ m, k = m + 1 := ⟨k - 1, by omega⟩
    have hlt : i < h.length := by omega
    have hm := hh h[i] (List.getElem_mem hlt)
    rw [quality_Best.l0, if_pos (by rw [List.length_map]; omega), if_pos (by omega), if_pos (by rw [List.length_map]; omega), rdm h i h[i] (List.getElem?_eq_getElem hlt), List.drop_eq_getElem_cons hlt]
    generalize h[i] = m at *
    show (quality_weight.f k (l.map rngB) (mk m.t) (mk m.s) (pairsB m.ps)).bind _ = _
    rw [weightF l m k hl hs hm (by omega), Option.bind_some, w1_ i (by omega), bestL]
    split
    · rw [ih k (i + 1) _ _ (by omega) (by omega)]
    · rw [ih k (i + 1) _ _ (by omega) (by omega)]
theorem bestF (s : L) (h : List Med) (k : Nat) (hs : s.length ≤ 1000000) (hh : ∀ m ∈ h, MSm 1000000 m) (hhl : h.length ≤ 1000000) (hk : 10000000 ≤ k) : quality_Best.f k (mk s) (h.map medB) = some (best s h) := by
  unfold quality_Best.f
  rw [rangesF s k hs (by omega), Option.bind_some]
  obtain ⟨a, b⟩ := ranges_sm s
  have hb : ∀ r ∈ rangesL s, MSm 1000000 r.m := fun r hr => by
    obtain ⟨c1, c2, c3, c4⟩ := b r hr
    exact ⟨by omega, by omega, by omega, fun p hp => by have := c4 p hp; omega⟩
  have := best_l0 (rangesL s) h (by omega) hb hh hhl h.length k 0 (-1) 0 (by omega) (by omega)
  simpa [best] using this
end Go.Proofs.YtghfbhobpodoeaaGreatDoor.Sp
/- Px20 -/
namespace Go.Proofs.YtghfbhobpodoeaaGreatDoor.P
open Go.Proofs.YtghfbhobpodoeaaGreatDoor.B
open Go.RowKit Go.Proofs.YtghfbhobpodoeaaGreatDoorW.PrintWords Go.Proofs.YtghfbhobpodoeaaGreatDoorW.PrintLast Go.Proofs.YtghfbhobpodoeaaGreatDoorW.PrintMore
attribute [local go_sem] run_store_float str_leq str_gtr str_geq max2_int min2_int max_two min_two max_three min_three max_four min_four
set_option linter.unusedVariables false
set_option linter.unusedSimpArgs false
def broadsheetref13_Skip.l0 : Nat → ByteArray → Option (ByteArray)
  | 0, _ => none
  | k + 1, x0 => if (x0.size : Int) > 0 then (if 0 < (x0.size : Int) then (if (bt x0 0) = 32 then (if 1 ≤ (x0.size : Int) then (broadsheetref13_Skip.l0 k (x0.extract 1 x0.size)) else (none)) else (if (bt x0 0) = 9 then (if 1 ≤ (x0.size : Int) then (broadsheetref13_Skip.l0 k (x0.extract 1 x0.size)) else (none)) else (some x0))) else (none)) else (some x0)
def broadsheetref13_Skip.f (k : Nat) (a0 : ByteArray) : Option (ByteArray) := broadsheetref13_Skip.l0 k a0
set_option maxHeartbeats 8000000 in
set_option maxRecDepth 100000 in
theorem broadsheetref13_Skip.calls (k : Nat) (a0 : ByteArray) (r : ByteArray) (w : World) (h : broadsheetref13_Skip.f k a0 = some r) :
  Calls Tryz.prog 25 #[.string a0] w fun e w' => e = .returned (.string r) ∧ Drawn0 w w' := by
 have H : (broadsheetref13_Skip.l0 k a0) = some r := h
 clear h
 have H' := Aside0.mk H
 clear H
 go_enter Tryz.func25, Tryz.ntmps25
 go_wp2
 first | go_loopg [0] k (fun kq v0 w' => ∃ (x0_1 : ByteArray), v0 = .string x0_1 ∧ Aside0 (broadsheetref13_Skip.l0 kq x0_1 = some r) ∧ Aside0 (kq ≤ k) ∧ Drawn0 w w') | (go_simp; go_loopg [0] k (fun kq v0 w' => ∃ (x0_1 : ByteArray), v0 = .string x0_1 ∧ Aside0 (broadsheetref13_Skip.l0 kq x0_1 = some r) ∧ Aside0 (kq ≤ k) ∧ Drawn0 w w'))
 case atStart => exact ⟨(a0), zb4, H', ⟨Nat.le_refl _⟩, by repeat (first | exact Drawn0.refl _ | apply Drawn0.step)⟩
 case round =>
  clear H'
  obtain ⟨x0_1, rfl, HA, HK1, ⟨m1, rfl⟩⟩ := hrel
  cases gk with
  | zero => exact absurd HA.out (by simp [broadsheetref13_Skip.l0])
  | succ k1 =>
   have H := HA.out
   clear HA
   simp only [broadsheetref13_Skip.l0] at H
   by_cases c2 : (x0_1.size : Int) > 0
   ·rw [if_pos c2] at H
    have c2b0 : decide (0 < (x0_1.size : Int)) = true := decide_eq_true c2
    have c2b1 : decide (0 < x0_1.size) = true := decide_eq_true zb42
    clear c2
    by_cases c3 : 0 < (x0_1.size : Int)
    ·rw [if_pos c3] at H
     have c3b0 : decide (0 < (x0_1.size : Int)) = true := decide_eq_true c3
     have c3b1 : decide (0 < x0_1.size) = true := decide_eq_true zb42
     clear c3
     by_cases c5 : (bt x0_1 0) = 32
     ·rw [if_pos c5] at H
      have c5b0 : ((bt x0_1 0) == 32) = true := beq_iff_eq.mpr c5
      have c5b1 : ((bt x0_1 0) != 32) = false := bne_eq_false_iff_eq.mpr c5
      clear c5
      by_cases c6 : 1 ≤ (x0_1.size : Int)
      ·rw [if_pos c6] at H
       have c6b0 := eq_true c6
       have c6b1 : decide (1 ≤ (x0_1.size : Int)) = true := decide_eq_true c6
       clear c6
       have H' := Aside0.mk H
       clear H
       have p4 : 0 ≤ (0 : Int) := zb42
       have q4 : 0 < x0_1.size := (by have : (0 : Int) < (x0_1.size : Int) := of_decide_eq_true zb3; omega)
       have hx4 : ∀ h : 0 < x0_1.size, ((x0_1[0]'h).toNat : Int) = bt x0_1 0 := bt_at x0_1 0
       clear p4
       have qi4 : (0 < (x0_1.size : Int)) = True := eq_true (of_decide_eq_true zb3)
       replace q4 := eq_true q4
       go_wp2
       go_roundg k1
       case measure => have := HK1.out; omega
       case rel => exact ⟨(x0_1.extract 1 x0_1.size), zb4, H', ⟨by have := HK1.out; omega⟩, by repeat (first | exact Drawn0.refl _ | apply Drawn0.step)⟩
      ·rw [if_neg c6] at H
       exact absurd H zb45
     ·rw [if_neg c5] at H
      have c5b0 : ((bt x0_1 0) == 32) = false := beq_eq_false_iff_ne.mpr c5
      have c5b1 : ((bt x0_1 0) != 32) = true := bne_iff_ne.mpr c5
      by_cases c8 : (bt x0_1 0) = 9
      ·rw [if_pos c8] at H
       have c8b0 : ((bt x0_1 0) == 9) = true := beq_iff_eq.mpr c8
       have c8b1 : ((bt x0_1 0) != 9) = false := bne_eq_false_iff_eq.mpr c8
       clear c8
       by_cases c9 : 1 ≤ (x0_1.size : Int)
       ·rw [if_pos c9] at H
        have c9b0 := eq_true c9
        have c9b1 : decide (1 ≤ (x0_1.size : Int)) = true := decide_eq_true c9
        clear c9
        have H' := Aside0.mk H
        clear H
        have p4 : 0 ≤ (0 : Int) := zb42
        have q4 : 0 < x0_1.size := (by have : (0 : Int) < (x0_1.size : Int) := of_decide_eq_true zb3; omega)
        have hx4 : ∀ h : 0 < x0_1.size, ((x0_1[0]'h).toNat : Int) = bt x0_1 0 := bt_at x0_1 0
        clear p4
        have qi4 : (0 < (x0_1.size : Int)) = True := eq_true (of_decide_eq_true zb3)
        replace q4 := eq_true q4
        have p7 : 0 ≤ (0 : Int) := zb42
        have q7 : 0 < x0_1.size := (by have : (0 : Int) < (x0_1.size : Int) := of_decide_eq_true zb3; omega)
        have hx7 : ∀ h : 0 < x0_1.size, ((x0_1[0]'h).toNat : Int) = bt x0_1 0 := bt_at x0_1 0
        clear p7
        have qi7 : (0 < (x0_1.size : Int)) = True := eq_true (of_decide_eq_true zb3)
        replace q7 := eq_true q7
        go_wp2
        go_roundg k1
        case measure => have := HK1.out; omega
        case rel => exact ⟨(x0_1.extract 1 x0_1.size), zb4, H', ⟨by have := HK1.out; omega⟩, by repeat (first | exact Drawn0.refl _ | apply Drawn0.step)⟩
       ·rw [if_neg c9] at H
        exact absurd H zb45
      ·rw [if_neg c8] at H
       have c8b0 : ((bt x0_1 0) == 9) = false := beq_eq_false_iff_ne.mpr c8
       have c8b1 : ((bt x0_1 0) != 9) = true := bne_iff_ne.mpr c8
       obtain rfl := Option.some.inj H
       have p4 : 0 ≤ (0 : Int) := zb42
       have q4 : 0 < x0_1.size := (by have : (0 : Int) < (x0_1.size : Int) := of_decide_eq_true zb3; omega)
       have hx4 : ∀ h : 0 < x0_1.size, ((x0_1[0]'h).toNat : Int) = bt x0_1 0 := bt_at x0_1 0
       clear p4
       have qi4 : (0 < (x0_1.size : Int)) = True := eq_true (of_decide_eq_true zb3)
       replace q4 := eq_true q4
       have p7 : 0 ≤ (0 : Int) := zb42
       have q7 : 0 < x0_1.size := (by have : (0 : Int) < (x0_1.size : Int) := of_decide_eq_true zb3; omega)
       have hx7 : ∀ h : 0 < x0_1.size, ((x0_1[0]'h).toNat : Int) = bt x0_1 0 := bt_at x0_1 0
       clear p7
       have qi7 : (0 < (x0_1.size : Int)) = True := eq_true (of_decide_eq_true zb3)
       replace q7 := eq_true q7
       go_wp2
       go_ret
       exact ⟨by first | rfl | (simp; done) | (simp [*]; done), by repeat (first | exact Drawn0.refl _ | apply Drawn0.step)⟩
    ·rw [if_neg c3] at H
     exact absurd H zb45
   ·rw [if_neg c2] at H
    have c2b0 : decide (0 < (x0_1.size : Int)) = false := decide_eq_false c2
    have c2b1 : decide (0 < x0_1.size) = false := decide_eq_false zb42
    clear c2
    obtain rfl := Option.some.inj H
    go_wp2
    go_ret
    exact ⟨by first | rfl | (simp; done) | (simp [*]; done), by repeat (first | exact Drawn0.refl _ | apply Drawn0.step)⟩
end Go.Proofs.YtghfbhobpodoeaaGreatDoor.P
/- SpRsk -/
namespace Go.Proofs.YtghfbhobpodoeaaGreatDoor.Sp
open Go Go.RowKit Go.Proofs.YtghfbhobpodoeaaGreatDoorW.PrintWords Go.Proofs.YtghfbhobpodoeaaGreatDoorW.PrintLast Go.Proofs.YtghfbhobpodoeaaGreatDoor.O Go.Proofs.YtghfbhobpodoeaaGreatDoor.P
set_option linter.unusedVariables false
set_option linter.unusedSimpArgs false
theorem w1 (i : Nat) (h : i ≤ 1000000000000) : wrap64 ((i : Int) + 1) = ((i + 1 : Nat) : Int) := by rw [wrap_id (by omega) (by omega)]; omega
theorem w2 (i : Nat) (h : i ≤ 1000000000000) : wrap64 ((i : Int) + 2) = ((i + 2 : Nat) : Int) := by rw [wrap_id (by omega) (by omega)]; omega
theorem ext1 (c : UInt8) (r : L) : (mk (c :: r)).extract 1 (mk (c :: r)).size = mk r := by rw [ext_from]; rfl
theorem rskip_l0 : ∀ (s : L) (k : Nat), s.length < k → broadsheetref13_Skip.l0 k (mk s) = some (mk (skip s))
  | [], k, hk => by
    obtain ⟨k, rfl⟩ : ∃ k', k = k' + 1 := ⟨k - 1, by omega⟩
    rw [broadsheetref13_Skip.l0, if_neg (by rw [mk_size]; simp)]
    rfl
  | c :: r, k, hk => by
    obtain ⟨k, rfl⟩ : ∃ k', k = k' + 1 := ⟨k - 1, by omega⟩
    simp only [List.length_cons] at hk
    have ih := rskip_l0 r k (by omega)
    rw [broadsheetref13_Skip.l0, if_pos (by rw [mk_size]; simp only [List.length_cons]; omega), if_pos (by rw [mk_size]; simp only [List.length_cons]; omega), bt_head]
    have h32 : ((c.toNat : Int) = 32) ↔ c = 32 := u8i c 32 (by omega)
    have h9 : ((c.toNat : Int) = 9) ↔ c = 9 := u8i c 9 (by omega)
    by_cases c32 : c = 32
    · rw [if_pos (h32.2 c32), if_pos (by rw [mk_size]; simp only [List.length_cons]; omega), ext1, ih]
      unfold skip
      rw [List.dropWhile_cons_of_pos (by simp [bl, c32])]
    · rw [if_neg (fun h => c32 (h32.1 h))]
      by_cases c9 : c = 9
      · rw [if_pos (h9.2 c9), if_pos (by rw [mk_size]; simp only [List.length_cons]; omega), ext1, ih]
        unfold skip
        rw [List.dropWhile_cons_of_pos (by simp [bl, c9])]
      · rw [if_neg (fun h => c9 (h9.1 h))]
        unfold skip
        rw [List.dropWhile_cons_of_neg (by simp [bl, c32, c9])]
theorem rskipF (s : L) (k : Nat) (hk : s.length < k) : broadsheetref13_Skip.f k (mk s) = some (mk (skip s)) := rskip_l0 s k hk
end Go.Proofs.YtghfbhobpodoeaaGreatDoor.Sp
/- Px1 -/
namespace Go.Proofs.YtghfbhobpodoeaaGreatDoor.P
open Go.Proofs.YtghfbhobpodoeaaGreatDoor.B
open Go.RowKit Go.Proofs.YtghfbhobpodoeaaGreatDoorW.PrintWords Go.Proofs.YtghfbhobpodoeaaGreatDoorW.PrintLast Go.Proofs.YtghfbhobpodoeaaGreatDoorW.PrintMore
attribute [local go_sem] run_store_float str_leq str_gtr str_geq max2_int min2_int max_two min_two max_three min_three max_four min_four
set_option linter.unusedVariables false
set_option linter.unusedSimpArgs false
def broadsheetref13_TokenByte.j0 : Nat → Int → Bool → Option (Bool)
  | 0, _, _ => none
  | k + 1, x0, x24 => if x24 = true then (some true) else (if x0 = 33 then (some true) else (if x0 = 35 then (some true) else (if x0 = 36 then (some true) else (if x0 = 37 then (some true) else (if x0 = 38 then (some true) else (if x0 = 39 then (some true) else (if x0 = 42 then (some true) else (if x0 = 43 then (some true) else (if x0 = 45 then (some true) else (if x0 = 46 then (some true) else (if x0 = 94 then (some true) else (if x0 = 95 then (some true) else (if x0 = 96 then (some true) else (if x0 = 124 then (some true) else (if x0 = 126 then (some true) else (some false))))))))))))))))
def broadsheetref13_TokenByte.f (k : Nat) (a0 : Int) : Option (Bool) := if a0 ≥ 48 then (if a0 ≤ 57 then (broadsheetref13_TokenByte.j0 k a0 true) else (if a0 ≥ 65 then (if a0 ≤ 90 then (broadsheetref13_TokenByte.j0 k a0 true) else (if a0 ≥ 97 then (broadsheetref13_TokenByte.j0 k a0 (decide (a0 ≤ 122))) else (broadsheetref13_TokenByte.j0 k a0 false))) else (if a0 ≥ 97 then (broadsheetref13_TokenByte.j0 k a0 (decide (a0 ≤ 122))) else (broadsheetref13_TokenByte.j0 k a0 false)))) else (if a0 ≥ 65 then (if a0 ≤ 90 then (broadsheetref13_TokenByte.j0 k a0 true) else (if a0 ≥ 97 then (broadsheetref13_TokenByte.j0 k a0 (decide (a0 ≤ 122))) else (broadsheetref13_TokenByte.j0 k a0 false))) else (if a0 ≥ 97 then (broadsheetref13_TokenByte.j0 k a0 (decide (a0 ≤ 122))) else (broadsheetref13_TokenByte.j0 k a0 false)))
set_option maxHeartbeats 8000000 in
set_option maxRecDepth 100000 in
theorem broadsheetref13_TokenByte.calls (k : Nat) (a0 : Int) (r : Bool) (w : World) (h : broadsheetref13_TokenByte.f k a0 = some r) :
  Calls Tryz.prog 62 #[.int .u8 a0] w fun e w' => e = .returned (.bool r) ∧ Drawn0 w w' := by
 have H : (if a0 ≥ 48 then (if a0 ≤ 57 then (broadsheetref13_TokenByte.j0 k a0 true) else (if a0 ≥ 65 then (if a0 ≤ 90 then (broadsheetref13_TokenByte.j0 k a0 true) else (if a0 ≥ 97 then (broadsheetref13_TokenByte.j0 k a0 (decide (a0 ≤ 122))) else (broadsheetref13_TokenByte.j0 k a0 false))) else (if a0 ≥ 97 then (broadsheetref13_TokenByte.j0 k a0 (decide (a0 ≤ 122))) else (broadsheetref13_TokenByte.j0 k a0 false)))) else (if a0 ≥ 65 then (if a0 ≤ 90 then (broadsheetref13_TokenByte.j0 k a0 true) else (if a0 ≥ 97 then (broadsheetref13_TokenByte.j0 k a0 (decide (a0 ≤ 122))) else (broadsheetref13_TokenByte.j0 k a0 false))) else (if a0 ≥ 97 then (broadsheetref13_TokenByte.j0 k a0 (decide (a0 ≤ 122))) else (broadsheetref13_TokenByte.j0 k a0 false)))) = some r := h
 clear h
 have HC2 := Aside0.mk H
 clear H
 go_enter Tryz.func62, Tryz.ntmps62
 go_upto_region 1 with (fail)
 go_cut [24] (fun v24 wc => ∃ (kq : Nat) (x24_1 : Bool), v24 = .bool x24_1 ∧ Aside0 (broadsheetref13_TokenByte.j0 kq a0 x24_1 = some r) ∧ Aside0 (kq ≤ k) ∧ Drawn0 w wc)
 case first =>
  have H := HC2.out
  clear HC2
  by_cases c3 : a0 ≥ 48
  ·rw [if_pos c3] at H
   have c3b0 : decide (48 ≤ a0) = true := decide_eq_true c3
   clear c3
   (first | rw [c3b0] | (simp only [i64_w, i32_w]; rw [c3b0]) | skip)
   by_cases c4 : a0 ≤ 57
   ·rw [if_pos c4] at H
    have c4b0 : decide (a0 ≤ 57) = true := decide_eq_true c4
    clear c4
    have H' := Aside0.mk H
    clear H
    go_wp2
    go_meet
    case rel => exact ⟨_, (true), zb4, H', ⟨by first | omega | exact Nat.le_refl _⟩, by repeat (first | exact Drawn0.refl _ | apply Drawn0.step)⟩
   ·rw [if_neg c4] at H
    have c4b0 : decide (a0 ≤ 57) = false := decide_eq_false c4
    clear c4
    by_cases c5 : a0 ≥ 65
    ·rw [if_pos c5] at H
     have c5b0 : decide (65 ≤ a0) = true := decide_eq_true c5
     clear c5
     by_cases c6 : a0 ≤ 90
     ·rw [if_pos c6] at H
      have c6b0 : decide (a0 ≤ 90) = true := decide_eq_true c6
      clear c6
      have H' := Aside0.mk H
      clear H
      go_wp2
      go_meet
      case rel => exact ⟨_, (true), zb4, H', ⟨by first | omega | exact Nat.le_refl _⟩, by repeat (first | exact Drawn0.refl _ | apply Drawn0.step)⟩
     ·rw [if_neg c6] at H
      have c6b0 : decide (a0 ≤ 90) = false := decide_eq_false c6
      clear c6
      by_cases c7 : a0 ≥ 97
      ·rw [if_pos c7] at H
       have c7b0 : decide (97 ≤ a0) = true := decide_eq_true c7
       clear c7
       have H' := Aside0.mk H
       clear H
       go_wp2
       go_meet
       case rel => exact ⟨_, (decide (a0 ≤ 122)), zb4, H', ⟨by first | omega | exact Nat.le_refl _⟩, by repeat (first | exact Drawn0.refl _ | apply Drawn0.step)⟩
      ·rw [if_neg c7] at H
       have c7b0 : decide (97 ≤ a0) = false := decide_eq_false c7
       clear c7
       have H' := Aside0.mk H
       clear H
       go_wp2
       go_meet
       case rel => exact ⟨_, (false), zb4, H', ⟨by first | omega | exact Nat.le_refl _⟩, by repeat (first | exact Drawn0.refl _ | apply Drawn0.step)⟩
    ·rw [if_neg c5] at H
     have c5b0 : decide (65 ≤ a0) = false := decide_eq_false c5
     clear c5
     by_cases c8 : a0 ≥ 97
     ·rw [if_pos c8] at H
      have c8b0 : decide (97 ≤ a0) = true := decide_eq_true c8
      clear c8
      have H' := Aside0.mk H
      clear H
      go_wp2
      go_meet
      case rel => exact ⟨_, (decide (a0 ≤ 122)), zb4, H', ⟨by first | omega | exact Nat.le_refl _⟩, by repeat (first | exact Drawn0.refl _ | apply Drawn0.step)⟩
     ·rw [if_neg c8] at H
      have c8b0 : decide (97 ≤ a0) = false := decide_eq_false c8
      clear c8
      have H' := Aside0.mk H
      clear H
      go_wp2
      go_meet
      case rel => exact ⟨_, (false), zb4, H', ⟨by first | omega | exact Nat.le_refl _⟩, by repeat (first | exact Drawn0.refl _ | apply Drawn0.step)⟩
  ·rw [if_neg c3] at H
   have c3b0 : decide (48 ≤ a0) = false := decide_eq_false c3
   clear c3
   (first | rw [c3b0] | (simp only [i64_w, i32_w]; rw [c3b0]) | skip)
   by_cases c9 : a0 ≥ 65
   ·rw [if_pos c9] at H
    have c9b0 : decide (65 ≤ a0) = true := decide_eq_true c9
    clear c9
    by_cases c10 : a0 ≤ 90
    ·rw [if_pos c10] at H
     have c10b0 : decide (a0 ≤ 90) = true := decide_eq_true c10
     clear c10
     have H' := Aside0.mk H
     clear H
     go_wp2
     go_meet
     case rel => exact ⟨_, (true), zb4, H', ⟨by first | omega | exact Nat.le_refl _⟩, by repeat (first | exact Drawn0.refl _ | apply Drawn0.step)⟩
    ·rw [if_neg c10] at H
     have c10b0 : decide (a0 ≤ 90) = false := decide_eq_false c10
     clear c10
     by_cases c11 : a0 ≥ 97
     ·rw [if_pos c11] at H
      have c11b0 : decide (97 ≤ a0) = true := decide_eq_true c11
      clear c11
      have H' := Aside0.mk H
      clear H
      go_wp2
      go_meet
      case rel => exact ⟨_, (decide (a0 ≤ 122)), zb4, H', ⟨by first | omega | exact Nat.le_refl _⟩, by repeat (first | exact Drawn0.refl _ | apply Drawn0.step)⟩
     ·rw [if_neg c11] at H
      have c11b0 : decide (97 ≤ a0) = false := decide_eq_false c11
      clear c11
      have H' := Aside0.mk H
      clear H
      go_wp2
      go_meet
      case rel => exact ⟨_, (false), zb4, H', ⟨by first | omega | exact Nat.le_refl _⟩, by repeat (first | exact Drawn0.refl _ | apply Drawn0.step)⟩
   ·rw [if_neg c9] at H
    have c9b0 : decide (65 ≤ a0) = false := decide_eq_false c9
    clear c9
    by_cases c12 : a0 ≥ 97
    ·rw [if_pos c12] at H
     have c12b0 : decide (97 ≤ a0) = true := decide_eq_true c12
     clear c12
     have H' := Aside0.mk H
     clear H
     go_wp2
     go_meet
     case rel => exact ⟨_, (decide (a0 ≤ 122)), zb4, H', ⟨by first | omega | exact Nat.le_refl _⟩, by repeat (first | exact Drawn0.refl _ | apply Drawn0.step)⟩
    ·rw [if_neg c12] at H
     have c12b0 : decide (97 ≤ a0) = false := decide_eq_false c12
     clear c12
     have H' := Aside0.mk H
     clear H
     go_wp2
     go_meet
     case rel => exact ⟨_, (false), zb4, H', ⟨by first | omega | exact Nat.le_refl _⟩, by repeat (first | exact Drawn0.refl _ | apply Drawn0.step)⟩
 case rest =>
  clear HC2
  try clear c1
  try clear p2
  try clear c3
  try clear c3b0
  try clear c4
  try clear c4b0
  try clear c5
  try clear c5b0
  try clear c6
  try clear c6b0
  try clear c7
  try clear c7b0
  try clear c8
  try clear c8b0
  try clear c9
  try clear c9b0
  try clear c10
  try clear c10b0
  try clear c11
  try clear c11b0
  try clear c12
  try clear c12b0
  obtain ⟨kq, x24_1, rfl, HA, HJ1, ⟨mc1, rfl⟩⟩ := hcut
  cases kq with
  | zero => exact absurd HA.out (by simp [broadsheetref13_TokenByte.j0])
  | succ kj1 =>
   have H := HA.out
   clear HA
   simp only [broadsheetref13_TokenByte.j0] at H
   by_cases c13 : x24_1 = true
   ·subst c13
    replace H : (some true) = some r := by rw [if_pos rfl] at H; exact H
    obtain rfl := Option.some.inj H
    go_wp2
    go_ret
    exact ⟨by first | rfl | (simp; done) | (simp [*]; done), by repeat (first | exact Drawn0.refl _ | apply Drawn0.step)⟩
   ·replace c13 := Bool.eq_false_iff.mpr c13
    subst c13
    replace H : (if a0 = 33 then (some true) else (if a0 = 35 then (some true) else (if a0 = 36 then (some true) else (if a0 = 37 then (some true) else (if a0 = 38 then (some true) else (if a0 = 39 then (some true) else (if a0 = 42 then (some true) else (if a0 = 43 then (some true) else (if a0 = 45 then (some true) else (if a0 = 46 then (some true) else (if a0 = 94 then (some true) else (if a0 = 95 then (some true) else (if a0 = 96 then (some true) else (if a0 = 124 then (some true) else (if a0 = 126 then (some true) else (some false)))))))))))))))) = some r := by rw [if_neg (show ¬ (false = true) by decide)] at H; exact H
    by_cases c14 : a0 = 33
    ·rw [if_pos c14] at H
     have c14b0 : (a0 == 33) = true := beq_iff_eq.mpr c14
     have c14b1 : (a0 != 33) = false := bne_eq_false_iff_eq.mpr c14
     clear c14
     obtain rfl := Option.some.inj H
     go_wp2
     go_ret
     exact ⟨by first | rfl | (simp; done) | (simp [*]; done), by repeat (first | exact Drawn0.refl _ | apply Drawn0.step)⟩
    ·rw [if_neg c14] at H
     have c14b0 : (a0 == 33) = false := beq_eq_false_iff_ne.mpr c14
     have c14b1 : (a0 != 33) = true := bne_iff_ne.mpr c14
     by_cases c15 : a0 = 35
     ·rw [if_pos c15] at H
      have c15b0 : (a0 == 35) = true := beq_iff_eq.mpr c15
      have c15b1 : (a0 != 35) = false := bne_eq_false_iff_eq.mpr c15
      clear c15
      obtain rfl := Option.some.inj H
      go_wp2
      go_ret
      exact ⟨by first | rfl | (simp; done) | (simp [*]; done), by repeat (first | exact Drawn0.refl _ | apply Drawn0.step)⟩
     ·rw [if_neg c15] at H
      have c15b0 : (a0 == 35) = false := beq_eq_false_iff_ne.mpr c15
      have c15b1 : (a0 != 35) = true := bne_iff_ne.mpr c15
      by_cases c16 : a0 = 36
      ·rw [if_pos c16] at H
       have c16b0 : (a0 == 36) = true := beq_iff_eq.mpr c16
       have c16b1 : (a0 != 36) = false := bne_eq_false_iff_eq.mpr c16
       clear c16
       obtain rfl := Option.some.inj H
       go_wp2
       go_ret
       exact ⟨by first | rfl | (simp; done) | (simp [*]; done), by repeat (first | exact Drawn0.refl _ | apply Drawn0.step)⟩
      ·rw [if_neg c16] at H
       have c16b0 : (a0 == 36) = false := beq_eq_false_iff_ne.mpr c16
       have c16b1 : (a0 != 36) = true := bne_iff_ne.mpr c16
       by_cases c17 : a0 = 37
       ·rw [if_pos c17] at H
        have c17b0 : (a0 == 37) = true := beq_iff_eq.mpr c17
        have c17b1 : (a0 != 37) = false := bne_eq_false_iff_eq.mpr c17
        clear c17
        obtain rfl := Option.some.inj H
        go_wp2
        go_ret
        exact ⟨by first | rfl | (simp; done) | (simp [*]; done), by repeat (first | exact Drawn0.refl _ | apply Drawn0.step)⟩
       ·rw [if_neg c17] at H
        have c17b0 : (a0 == 37) = false := beq_eq_false_iff_ne.mpr c17
        have c17b1 : (a0 != 37) = true := bne_iff_ne.mpr c17
        by_cases c18 : a0 = 38
        ·rw [if_pos c18] at H
         have c18b0 : (a0 == 38) = true := beq_iff_eq.mpr c18
         have c18b1 : (a0 != 38) = false := bne_eq_false_iff_eq.mpr c18
         clear c18
         obtain rfl := Option.some.inj H
         go_wp2
         go_ret
         exact ⟨by first | rfl | (simp; done) | (simp [*]; done), by repeat (first | exact Drawn0.refl _ | apply Drawn0.step)⟩
        ·rw [if_neg c18] at H
         have c18b0 : (a0 == 38) = false := beq_eq_false_iff_ne.mpr c18
         have c18b1 : (a0 != 38) = true := bne_iff_ne.mpr c18
         by_cases c19 : a0 = 39
         ·rw [if_pos c19] at H
          have c19b0 : (a0 == 39) = true := beq_iff_eq.mpr c19
          have c19b1 : (a0 != 39) = false := bne_eq_false_iff_eq.mpr c19
          clear c19
          obtain rfl := Option.some.inj H
          go_wp2
          go_ret
          exact ⟨by first | rfl | (simp; done) | (simp [*]; done), by repeat (first | exact Drawn0.refl _ | apply Drawn0.step)⟩
         ·rw [if_neg c19] at H
          have c19b0 : (a0 == 39) = false := beq_eq_false_iff_ne.mpr c19
          have c19b1 : (a0 != 39) = true := bne_iff_ne.mpr c19
          by_cases c20 : a0 = 42
          ·rw [if_pos c20] at H
           have c20b0 : (a0 == 42) = true := beq_iff_eq.mpr c20
           have c20b1 : (a0 != 42) = false := bne_eq_false_iff_eq.mpr c20
           clear c20
           obtain rfl := Option.some.inj H
           go_wp2
           go_ret
           exact ⟨by first | rfl | (simp; done) | (simp [*]; done), by repeat (first | exact Drawn0.refl _ | apply Drawn0.step)⟩
          ·rw [if_neg c20] at H
           have c20b0 : (a0 == 42) = false := beq_eq_false_iff_ne.mpr c20
           have c20b1 : (a0 != 42) = true := bne_iff_ne.mpr c20
           by_cases c21 : a0 = 43
           ·rw [if_pos c21] at H
            have c21b0 : (a0 == 43) = true := beq_iff_eq.mpr c21
            have c21b1 : (a0 != 43) = false := bne_eq_false_iff_eq.mpr c21
            clear c21
            obtain rfl := Option.some.inj H
            go_wp2
            go_ret
            exact ⟨by first | rfl | (simp; done) | (simp [*]; done), by repeat (first | exact Drawn0.refl _ | apply Drawn0.step)⟩
           ·rw [if_neg c21] at H
            have c21b0 : (a0 == 43) = false := beq_eq_false_iff_ne.mpr c21
            have c21b1 : (a0 != 43) = true := bne_iff_ne.mpr c21
            by_cases c22 : a0 = 45
            ·rw [if_pos c22] at H
             have c22b0 : (a0 == 45) = true := beq_iff_eq.mpr c22
             have c22b1 : (a0 != 45) = false := bne_eq_false_iff_eq.mpr c22
             clear c22
             obtain rfl := Option.some.inj H
             go_wp2
             go_ret
             exact ⟨by first | rfl | (simp; done) | (simp [*]; done), by repeat (first | exact Drawn0.refl _ | apply Drawn0.step)⟩
            ·rw [if_neg c22] at H
             have c22b0 : (a0 == 45) = false := beq_eq_false_iff_ne.mpr c22
             have c22b1 : (a0 != 45) = true := bne_iff_ne.mpr c22
             by_cases c23 : a0 = 46
             ·rw [if_pos c23] at H
              have c23b0 : (a0 == 46) = true := beq_iff_eq.mpr c23
              have c23b1 : (a0 != 46) = false := bne_eq_false_iff_eq.mpr c23
              clear c23
              obtain rfl := Option.some.inj H
              go_wp2
              go_ret
              exact ⟨by first | rfl | (simp; done) | (simp [*]; done), by repeat (first | exact Drawn0.refl _ | apply Drawn0.step)⟩
             ·rw [if_neg c23] at H
              have c23b0 : (a0 == 46) = false := beq_eq_false_iff_ne.mpr c23
              have c23b1 : (a0 != 46) = true := bne_iff_ne.mpr c23
              by_cases c24 : a0 = 94
              ·rw [if_pos c24] at H
               have c24b0 : (a0 == 94) = true := beq_iff_eq.mpr c24
               have c24b1 : (a0 != 94) = false := bne_eq_false_iff_eq.mpr c24
               clear c24
               obtain rfl := Option.some.inj H
               go_wp2
               go_ret
               exact ⟨by first | rfl | (simp; done) | (simp [*]; done), by repeat (first | exact Drawn0.refl _ | apply Drawn0.step)⟩
              ·rw [if_neg c24] at H
               have c24b0 : (a0 == 94) = false := beq_eq_false_iff_ne.mpr c24
               have c24b1 : (a0 != 94) = true := bne_iff_ne.mpr c24
               by_cases c25 : a0 = 95
               ·rw [if_pos c25] at H
                have c25b0 : (a0 == 95) = true := beq_iff_eq.mpr c25
                have c25b1 : (a0 != 95) = false := bne_eq_false_iff_eq.mpr c25
                clear c25
                obtain rfl := Option.some.inj H
                go_wp2
                go_ret
                exact ⟨by first | rfl | (simp; done) | (simp [*]; done), by repeat (first | exact Drawn0.refl _ | apply Drawn0.step)⟩
               ·rw [if_neg c25] at H
                have c25b0 : (a0 == 95) = false := beq_eq_false_iff_ne.mpr c25
                have c25b1 : (a0 != 95) = true := bne_iff_ne.mpr c25
                by_cases c26 : a0 = 96
                ·rw [if_pos c26] at H
                 have c26b0 : (a0 == 96) = true := beq_iff_eq.mpr c26
                 have c26b1 : (a0 != 96) = false := bne_eq_false_iff_eq.mpr c26
                 clear c26
                 obtain rfl := Option.some.inj H
                 go_wp2
                 go_ret
                 exact ⟨by first | rfl | (simp; done) | (simp [*]; done), by repeat (first | exact Drawn0.refl _ | apply Drawn0.step)⟩
                ·rw [if_neg c26] at H
                 have c26b0 : (a0 == 96) = false := beq_eq_false_iff_ne.mpr c26
                 have c26b1 : (a0 != 96) = true := bne_iff_ne.mpr c26
                 by_cases c27 : a0 = 124
                 ·rw [if_pos c27] at H
                  have c27b0 : (a0 == 124) = true := beq_iff_eq.mpr c27
                  have c27b1 : (a0 != 124) = false := bne_eq_false_iff_eq.mpr c27
                  clear c27
                  obtain rfl := Option.some.inj H
                  go_wp2
                  go_ret
                  exact ⟨by first | rfl | (simp; done) | (simp [*]; done), by repeat (first | exact Drawn0.refl _ | apply Drawn0.step)⟩
                 ·rw [if_neg c27] at H
                  have c27b0 : (a0 == 124) = false := beq_eq_false_iff_ne.mpr c27
                  have c27b1 : (a0 != 124) = true := bne_iff_ne.mpr c27
                  by_cases c28 : a0 = 126
                  ·rw [if_pos c28] at H
                   have c28b0 : (a0 == 126) = true := beq_iff_eq.mpr c28
                   have c28b1 : (a0 != 126) = false := bne_eq_false_iff_eq.mpr c28
                   clear c28
                   obtain rfl := Option.some.inj H
                   go_wp2
                   go_ret
                   exact ⟨by first | rfl | (simp; done) | (simp [*]; done), by repeat (first | exact Drawn0.refl _ | apply Drawn0.step)⟩
                  ·rw [if_neg c28] at H
                   have c28b0 : (a0 == 126) = false := beq_eq_false_iff_ne.mpr c28
                   have c28b1 : (a0 != 126) = true := bne_iff_ne.mpr c28
                   obtain rfl := Option.some.inj H
                   go_wp2
                   go_ret
                   exact ⟨by first | rfl | (simp; done) | (simp [*]; done), by repeat (first | exact Drawn0.refl _ | apply Drawn0.step)⟩
def broadsheetref13_Token.l0 : Nat → ByteArray → Int → Option (ByteArray × ByteArray)
  | 0, _, _ => none
  | k + 1, x0, x4 => if x4 < (x0.size : Int) then (if 0 ≤ x4 then ((broadsheetref13_TokenByte.f k (bt x0 x4)).bind fun t101 => (if t101 = true then (broadsheetref13_Token.l0 k x0 (wrap64 (x4 + 1))) else (if x4 ≤ (x0.size : Int) then (some (x0.extract 0 (x4 : Int).toNat, x0.extract (x4 : Int).toNat x0.size)) else (none)))) else (none)) else (if 0 ≤ x4 then (if x4 ≤ (x0.size : Int) then (some (x0.extract 0 (x4 : Int).toNat, x0.extract (x4 : Int).toNat x0.size)) else (none)) else (none))
def broadsheetref13_Token.f (k : Nat) (a0 : ByteArray) : Option (ByteArray × ByteArray) := broadsheetref13_Token.l0 k a0 0
set_option maxHeartbeats 8000000 in
set_option maxRecDepth 100000 in
theorem broadsheetref13_Token.calls (k : Nat) (a0 : ByteArray) (r1 : ByteArray) (r2 : ByteArray) (w : World) (h : broadsheetref13_Token.f k a0 = some (r1, r2)) :
  Calls Tryz.prog 46 #[.string a0] w fun e w' => e = .returned (.tuple #[.string r1, .string r2]) ∧ Drawn0 w w' := by
 have H : (broadsheetref13_Token.l0 k a0 0) = some (r1, r2) := h
 clear h
 have H' := Aside0.mk H
 clear H
 go_enter Tryz.func46, Tryz.ntmps46
 go_wp2
 repeat (go_quiet (fail); try go_wp2)
 first | go_loopg [4] k (fun kq v4 w' => ∃ (x4_1 : Int), v4 = .int .i64 x4_1 ∧ Aside0 (broadsheetref13_Token.l0 kq a0 x4_1 = some (r1, r2)) ∧ Aside0 (kq ≤ k) ∧ Drawn0 w w') | (go_simp; go_loopg [4] k (fun kq v4 w' => ∃ (x4_1 : Int), v4 = .int .i64 x4_1 ∧ Aside0 (broadsheetref13_Token.l0 kq a0 x4_1 = some (r1, r2)) ∧ Aside0 (kq ≤ k) ∧ Drawn0 w w'))
 case atStart => exact ⟨(0), zb4, H', ⟨Nat.le_refl _⟩, by repeat (first | exact Drawn0.refl _ | apply Drawn0.step)⟩
 case round =>
  clear H'
  obtain ⟨x4_1, rfl, HA, HK1, ⟨m1, rfl⟩⟩ := hrel
  cases gk with
  | zero => exact absurd HA.out (by simp [broadsheetref13_Token.l0])
  | succ k1 =>
   have H := HA.out
   clear HA
   simp only [broadsheetref13_Token.l0] at H
   by_cases c2 : x4_1 < (a0.size : Int)
   ·rw [if_pos c2] at H
    have c2b0 : decide (x4_1 < (a0.size : Int)) = true := decide_eq_true c2
    clear c2
    by_cases c3 : 0 ≤ x4_1
    ·rw [if_pos c3] at H
     have c3b0 : decide (0 ≤ x4_1) = true := decide_eq_true c3
     clear c3
     replace H := Option.bind_eq_some_iff.mp H
     obtain ⟨t101, A50, H⟩ := H
     replace H : (if t101 = true then (broadsheetref13_Token.l0 k1 a0 (wrap64 (x4_1 + 1))) else (if x4_1 ≤ (a0.size : Int) then (some (a0.extract 0 (x4_1 : Int).toNat, a0.extract (x4_1 : Int).toNat a0.size)) else (none))) = some (r1, r2) := H
     have A5 := Aside0.mk A50
     clear A50
     by_cases c6 : t101 = true
     ·subst c6
      replace H : (broadsheetref13_Token.l0 k1 a0 (wrap64 (x4_1 + 1))) = some (r1, r2) := by rw [if_pos rfl] at H; exact H
      have H' := Aside0.mk H
      clear H
      have p4 : 0 ≤ (x4_1 : Int) := of_decide_eq_true zb3
      have q4 : x4_1 < (a0.size : Int) := of_decide_eq_true zb3
      have hx4 := bt_at a0 x4_1
      replace p4 := eq_true p4
      replace q4 := eq_true q4
      go_wp2_with (first | (go_at_call 62; (with_reducible refine (broadsheetref13_TokenByte.calls k1 (bt a0 x4_1) true _ A5.out).mono ?_); rintro e w' ⟨rfl, ⟨nd, rfl⟩⟩; (try first | exact ⟨rfl, _, World.drewN_drewN _ _ _⟩ | exact ⟨rfl, _, Eq.trans (World.drewN_drewN _ _ _) (congrArg (World.drewN _) (Nat.add_assoc _ _ _))⟩)))
      repeat (go_quiet (first | (go_at_call 62; (with_reducible refine (broadsheetref13_TokenByte.calls k1 (bt a0 x4_1) true _ A5.out).mono ?_); rintro e w' ⟨rfl, ⟨nd, rfl⟩⟩; (try first | exact ⟨rfl, _, World.drewN_drewN _ _ _⟩ | exact ⟨rfl, _, Eq.trans (World.drewN_drewN _ _ _) (congrArg (World.drewN _) (Nat.add_assoc _ _ _))⟩))); try go_wp2_with (first | (go_at_call 62; (with_reducible refine (broadsheetref13_TokenByte.calls k1 (bt a0 x4_1) true _ A5.out).mono ?_); rintro e w' ⟨rfl, ⟨nd, rfl⟩⟩; (try first | exact ⟨rfl, _, World.drewN_drewN _ _ _⟩ | exact ⟨rfl, _, Eq.trans (World.drewN_drewN _ _ _) (congrArg (World.drewN _) (Nat.add_assoc _ _ _))⟩))))
      go_roundg k1
      case measure => have := HK1.out; omega
      case rel => exact ⟨(wrap64 (x4_1 + 1)), zb4, H', ⟨by have := HK1.out; omega⟩, by repeat (first | exact Drawn0.refl _ | apply Drawn0.step)⟩
     ·replace c6 := Bool.eq_false_iff.mpr c6
      subst c6
      replace H : (if x4_1 ≤ (a0.size : Int) then (some (a0.extract 0 (x4_1 : Int).toNat, a0.extract (x4_1 : Int).toNat a0.size)) else (none)) = some (r1, r2) := by rw [if_neg (show ¬ (false = true) by decide)] at H; exact H
      have c7b0 := eq_true (of_decide_eq_true zb3 : 0 ≤ x4_1)
      by_cases c8 : x4_1 ≤ (a0.size : Int)
      ·rw [if_pos c8] at H
       have c8b0 := eq_true c8
       have c8b1 : decide (x4_1 ≤ (a0.size : Int)) = true := decide_eq_true c8
       clear c8
       have c9b0 := eq_true (of_decide_eq_true zb3 : 0 ≤ x4_1)
       have c10b0 := eq_true (of_decide_eq_true zb3 : x4_1 ≤ (a0.size : Int))
       simp only [Option.some.injEq, Prod.mk.injEq] at H
       obtain ⟨rfl, rfl⟩ := H
       have p4 : 0 ≤ (x4_1 : Int) := of_decide_eq_true zb3
       have q4 : x4_1 < (a0.size : Int) := of_decide_eq_true zb3
       have hx4 := bt_at a0 x4_1
       replace p4 := eq_true p4
       replace q4 := eq_true q4
       go_wp2_with (first | (go_at_call 62; (with_reducible refine (broadsheetref13_TokenByte.calls k1 (bt a0 x4_1) false _ A5.out).mono ?_); rintro e w' ⟨rfl, ⟨nd, rfl⟩⟩; (try first | exact ⟨rfl, _, World.drewN_drewN _ _ _⟩ | exact ⟨rfl, _, Eq.trans (World.drewN_drewN _ _ _) (congrArg (World.drewN _) (Nat.add_assoc _ _ _))⟩)))
       repeat (go_quiet (first | (go_at_call 62; (with_reducible refine (broadsheetref13_TokenByte.calls k1 (bt a0 x4_1) false _ A5.out).mono ?_); rintro e w' ⟨rfl, ⟨nd, rfl⟩⟩; (try first | exact ⟨rfl, _, World.drewN_drewN _ _ _⟩ | exact ⟨rfl, _, Eq.trans (World.drewN_drewN _ _ _) (congrArg (World.drewN _) (Nat.add_assoc _ _ _))⟩))); try go_wp2_with (first | (go_at_call 62; (with_reducible refine (broadsheetref13_TokenByte.calls k1 (bt a0 x4_1) false _ A5.out).mono ?_); rintro e w' ⟨rfl, ⟨nd, rfl⟩⟩; (try first | exact ⟨rfl, _, World.drewN_drewN _ _ _⟩ | exact ⟨rfl, _, Eq.trans (World.drewN_drewN _ _ _) (congrArg (World.drewN _) (Nat.add_assoc _ _ _))⟩))))
       go_ret2
       exact ⟨by first | rfl | (simp; done) | (simp [*]; done), by repeat (first | exact Drawn0.refl _ | apply Drawn0.step)⟩
      ·rw [if_neg c8] at H
       exact absurd H zb45
    ·rw [if_neg c3] at H
     exact absurd H zb45
   ·rw [if_neg c2] at H
    have c2b0 : decide (x4_1 < (a0.size : Int)) = false := decide_eq_false c2
    clear c2
    by_cases c11 : 0 ≤ x4_1
    ·rw [if_pos c11] at H
     have c11b0 := eq_true c11
     have c11b1 : decide (0 ≤ x4_1) = true := decide_eq_true c11
     clear c11
     by_cases c12 : x4_1 ≤ (a0.size : Int)
     ·rw [if_pos c12] at H
      have c12b0 := eq_true c12
      have c12b1 : decide (x4_1 ≤ (a0.size : Int)) = true := decide_eq_true c12
      clear c12
      have c13b0 := eq_true (of_decide_eq_true zb3 : 0 ≤ x4_1)
      have c14b0 := eq_true (of_decide_eq_true zb3 : x4_1 ≤ (a0.size : Int))
      simp only [Option.some.injEq, Prod.mk.injEq] at H
      obtain ⟨rfl, rfl⟩ := H
      go_wp2
      repeat (go_quiet (fail); try go_wp2)
      go_ret2
      exact ⟨by first | rfl | (simp; done) | (simp [*]; done), by repeat (first | exact Drawn0.refl _ | apply Drawn0.step)⟩
     ·rw [if_neg c12] at H
      exact absurd H zb45
    ·rw [if_neg c11] at H
     exact absurd H zb45
def broadsheetref07_Lower.l0 : Nat → ByteArray → List Int → Int → Option (ByteArray)
  | 0, _, _, _ => none
  | k + 1, x0, x3, x4 => if x4 < (x0.size : Int) then (if 0 ≤ x4 then (if (bt x0 x4) ≥ 65 then (if (bt x0 x4) ≤ 90 then (if x3.length < 140737488355328 then (broadsheetref07_Lower.l0 k x0 (x3 ++ [((bt x0 x4) + 32) % 256]) (wrap64 (x4 + 1))) else (none)) else (if x3.length < 140737488355328 then (broadsheetref07_Lower.l0 k x0 (x3 ++ [bt x0 x4]) (wrap64 (x4 + 1))) else (none))) else (if x3.length < 140737488355328 then (broadsheetref07_Lower.l0 k x0 (x3 ++ [bt x0 x4]) (wrap64 (x4 + 1))) else (none))) else (none)) else (some (strOfNums x3))
def broadsheetref07_Lower.f (k : Nat) (a0 : ByteArray) : Option (ByteArray) := broadsheetref07_Lower.l0 k a0 ([] : List Int) 0
set_option maxHeartbeats 8000000 in
set_option maxRecDepth 100000 in
theorem broadsheetref07_Lower.calls (k : Nat) (a0 : ByteArray) (r : ByteArray) (w : World) (h : broadsheetref07_Lower.f k a0 = some r) :
  Calls Tryz.prog 57 #[.string a0] w fun e w' => e = .returned (.string r) ∧ Below w.heap.size w w' := by
 have HB := Aside0.mk (Below.refl w.heap.size w)
 have H : (broadsheetref07_Lower.l0 k a0 ([] : List Int) 0) = some r := h
 clear h
 have H' := Aside0.mk H
 clear H
 go_enter Tryz.func57, Tryz.ntmps57
 go_wp2
 first | go_loopg [3, 4] k (fun kq v3 v4 w' => ∃ (x3_1 : List Int) (x4_1 : Int), v4 = .int .i64 x4_1 ∧ Aside0 (broadsheetref07_Lower.l0 kq a0 x3_1 x4_1 = some r) ∧ Aside0 (kq ≤ k) ∧ Aside0 (Kd.R (Kd.int .u8) 5 w' w.heap.size (fun _ => True) v3 x3_1) ∧ Aside0 (Below w.heap.size w w')) | (go_simp; go_loopg [3, 4] k (fun kq v3 v4 w' => ∃ (x3_1 : List Int) (x4_1 : Int), v4 = .int .i64 x4_1 ∧ Aside0 (broadsheetref07_Lower.l0 kq a0 x3_1 x4_1 = some r) ∧ Aside0 (kq ≤ k) ∧ Aside0 (Kd.R (Kd.int .u8) 5 w' w.heap.size (fun _ => True) v3 x3_1) ∧ Aside0 (Below w.heap.size w w')))
 case atStart => exact ⟨(([] : List Int)), (0), zb4, H', ⟨Nat.le_refl _⟩, ⟨by first | exact Kd.R_nil _ _ _ _ _ | exact Kd.N_nil _ _ _ _ _ | exact Kd.V_nil _ _ _ _ _ | exact Kd.Q_nil _ _ _ _ _ | exact Kd.S_nil _ _ _ _ _⟩, ⟨by repeat (first | (with_reducible first | exact HB.out | apply below_alloc | apply pw_below_drewN | apply below_drew1) | exact HB.out)⟩⟩
 case round =>
  clear H'
  obtain ⟨x3_1, x4_1, rfl, HA, HK1, HO_3, HB⟩ := hrel
  cases gk with
  | zero => exact absurd HA.out (by simp [broadsheetref07_Lower.l0])
  | succ k1 =>
   have H := HA.out
   clear HA
   simp only [broadsheetref07_Lower.l0] at H
   by_cases c2 : x4_1 < (a0.size : Int)
   ·rw [if_pos c2] at H
    have c2b0 : decide (x4_1 < (a0.size : Int)) = true := decide_eq_true c2
    clear c2
    by_cases c3 : 0 ≤ x4_1
    ·rw [if_pos c3] at H
     have c3b0 : decide (0 ≤ x4_1) = true := decide_eq_true c3
     clear c3
     by_cases c5 : (bt a0 x4_1) ≥ 65
     ·rw [if_pos c5] at H
      have c5b0 : decide (65 ≤ (bt a0 x4_1)) = true := decide_eq_true c5
      clear c5
      by_cases c6 : (bt a0 x4_1) ≤ 90
      ·rw [if_pos c6] at H
       have c6b0 : decide ((bt a0 x4_1) ≤ 90) = true := decide_eq_true c6
       clear c6
       by_cases c7 : x3_1.length < 140737488355328
       ·rw [if_pos c7] at H
        have LMc7 := Aside0.mk c7
        clear c7
        obtain ⟨y194, hy194⟩ : ∃ y_ : List Int, y_ = (x3_1 ++ [((bt a0 x4_1) + 32) % 256]) := ⟨_, rfl⟩
        replace H : (broadsheetref07_Lower.l0 k1 a0 y194 (wrap64 (x4_1 + 1))) = some r := by first | (rw [hy194]; with_reducible exact H) | (have H2_ := (Option.bind_some _ _).symm.trans H; rw [hy194]; with_reducible exact H2_) | (have H2_ := (Option.bind_some _ _).symm.trans H; with_reducible exact H2_) | with_reducible exact H | (rw [hy194]; exact H) | exact H
        have Ny194 := Aside0.mk hy194
        clear hy194
        have H' := Aside0.mk H
        clear H
        have p4 : 0 ≤ (x4_1 : Int) := of_decide_eq_true zb3
        have q4 : x4_1 < (a0.size : Int) := of_decide_eq_true zb3
        have hx4 := bt_at a0 x4_1
        replace p4 := eq_true p4
        replace q4 := eq_true q4
        go_wp2_with (first | ((with_reducible refine gate_builtin (b := .append) (xs := #[.tmp 23, .tmp 25]) rfl ?_); at_builtin; refine Kd.R_append (Kd.int .u8) (w0 := w) w.heap.size rfl (.tmp 23) (.tmp 25) 31 5 (.int .u8 0) 1 rfl Tryz.underlying31 info5 rfl zb47 zb42 u3 x3_1 (((bt a0 x4_1) + 32) % 256) [.int .u8 (((bt a0 x4_1) + 32) % 256)] (fun _ => True) (fun _ => False) rfl rfl ?aP (fun _ hk => hk.elim) ?aF ?aO ?aB ?aS ?aL ?_; (case aP => exact rfl); (case aB => exact zb0); (case aF => exact (fun _ _ => trivial)); (case aO => exact zb51); (case aS => exact (below_size zb0)); (case aL => have := LMc7.out; omega); intro v195 w8 ho hb hg hat; rw [← Ny194.out] at ho; have n0_ := Aside0.mk (hb); have n1_ := Aside0.mk (ho); clear HB; clear HO_3; have HB := n0_; have HO196 := n1_; clear n0_ n1_; clear ho hb hg hat))
        go_roundg k1
        case measure => have := HK1.out; omega
        case rel => exact ⟨(y194), (wrap64 (x4_1 + 1)), zb4, H', ⟨by have := HK1.out; omega⟩, ⟨by (with_reducible repeat (first | apply Kd.R_alloc | apply Kd.R_drewN | apply Kd.R_drew)); exact HO196.out⟩, ⟨by repeat (first | (with_reducible first | exact HB.out | apply below_alloc | apply pw_below_drewN | apply below_drew1) | exact HB.out)⟩⟩
       ·rw [if_neg c7] at H
        exact absurd H zb45
      ·rw [if_neg c6] at H
       have c6b0 : decide ((bt a0 x4_1) ≤ 90) = false := decide_eq_false c6
       clear c6
       by_cases c9 : x3_1.length < 140737488355328
       ·rw [if_pos c9] at H
        have LMc9 := Aside0.mk c9
        clear c9
        obtain ⟨y197, hy197⟩ : ∃ y_ : List Int, y_ = (x3_1 ++ [bt a0 x4_1]) := ⟨_, rfl⟩
        replace H : (broadsheetref07_Lower.l0 k1 a0 y197 (wrap64 (x4_1 + 1))) = some r := by first | (rw [hy197]; with_reducible exact H) | (have H2_ := (Option.bind_some _ _).symm.trans H; rw [hy197]; with_reducible exact H2_) | (have H2_ := (Option.bind_some _ _).symm.trans H; with_reducible exact H2_) | with_reducible exact H | (rw [hy197]; exact H) | exact H
        have Ny197 := Aside0.mk hy197
        clear hy197
        have H' := Aside0.mk H
        clear H
        have p4 : 0 ≤ (x4_1 : Int) := of_decide_eq_true zb3
        have q4 : x4_1 < (a0.size : Int) := of_decide_eq_true zb3
        have hx4 := bt_at a0 x4_1
        replace p4 := eq_true p4
        replace q4 := eq_true q4
        go_wp2_with (first | ((with_reducible refine gate_builtin (b := .append) (xs := #[.tmp 23, .tmp 25]) rfl ?_); at_builtin; refine Kd.R_append (Kd.int .u8) (w0 := w) w.heap.size rfl (.tmp 23) (.tmp 25) 31 5 (.int .u8 0) 1 rfl Tryz.underlying31 info5 rfl zb47 zb42 u3 x3_1 (bt a0 x4_1) [.int .u8 (bt a0 x4_1)] (fun _ => True) (fun _ => False) rfl rfl ?aP (fun _ hk => hk.elim) ?aF ?aO ?aB ?aS ?aL ?_; (case aP => exact rfl); (case aB => exact zb0); (case aF => exact (fun _ _ => trivial)); (case aO => exact zb51); (case aS => exact (below_size zb0)); (case aL => have := LMc9.out; omega); intro v198 w10 ho hb hg hat; rw [← Ny197.out] at ho; have n0_ := Aside0.mk (hb); have n1_ := Aside0.mk (ho); clear HB; clear HO_3; have HB := n0_; have HO199 := n1_; clear n0_ n1_; clear ho hb hg hat))
        go_roundg k1
        case measure => have := HK1.out; omega
        case rel => exact ⟨(y197), (wrap64 (x4_1 + 1)), zb4, H', ⟨by have := HK1.out; omega⟩, ⟨by (with_reducible repeat (first | apply Kd.R_alloc | apply Kd.R_drewN | apply Kd.R_drew)); exact HO199.out⟩, ⟨by repeat (first | (with_reducible first | exact HB.out | apply below_alloc | apply pw_below_drewN | apply below_drew1) | exact HB.out)⟩⟩
       ·rw [if_neg c9] at H
        exact absurd H zb45
     ·rw [if_neg c5] at H
      have c5b0 : decide (65 ≤ (bt a0 x4_1)) = false := decide_eq_false c5
      clear c5
      by_cases c11 : x3_1.length < 140737488355328
      ·rw [if_pos c11] at H
       have LMc11 := Aside0.mk c11
       clear c11
       obtain ⟨y200, hy200⟩ : ∃ y_ : List Int, y_ = (x3_1 ++ [bt a0 x4_1]) := ⟨_, rfl⟩
       replace H : (broadsheetref07_Lower.l0 k1 a0 y200 (wrap64 (x4_1 + 1))) = some r := by first | (rw [hy200]; with_reducible exact H) | (have H2_ := (Option.bind_some _ _).symm.trans H; rw [hy200]; with_reducible exact H2_) | (have H2_ := (Option.bind_some _ _).symm.trans H; with_reducible exact H2_) | with_reducible exact H | (rw [hy200]; exact H) | exact H
       have Ny200 := Aside0.mk hy200
       clear hy200
       have H' := Aside0.mk H
       clear H
       have p4 : 0 ≤ (x4_1 : Int) := of_decide_eq_true zb3
       have q4 : x4_1 < (a0.size : Int) := of_decide_eq_true zb3
       have hx4 := bt_at a0 x4_1
       replace p4 := eq_true p4
       replace q4 := eq_true q4
       go_wp2_with (first | ((with_reducible refine gate_builtin (b := .append) (xs := #[.tmp 23, .tmp 25]) rfl ?_); at_builtin; refine Kd.R_append (Kd.int .u8) (w0 := w) w.heap.size rfl (.tmp 23) (.tmp 25) 31 5 (.int .u8 0) 1 rfl Tryz.underlying31 info5 rfl zb47 zb42 u3 x3_1 (bt a0 x4_1) [.int .u8 (bt a0 x4_1)] (fun _ => True) (fun _ => False) rfl rfl ?aP (fun _ hk => hk.elim) ?aF ?aO ?aB ?aS ?aL ?_; (case aP => exact rfl); (case aB => exact zb0); (case aF => exact (fun _ _ => trivial)); (case aO => exact zb51); (case aS => exact (below_size zb0)); (case aL => have := LMc11.out; omega); intro v201 w12 ho hb hg hat; rw [← Ny200.out] at ho; have n0_ := Aside0.mk (hb); have n1_ := Aside0.mk (ho); clear HB; clear HO_3; have HB := n0_; have HO202 := n1_; clear n0_ n1_; clear ho hb hg hat))
       go_roundg k1
       case measure => have := HK1.out; omega
       case rel => exact ⟨(y200), (wrap64 (x4_1 + 1)), zb4, H', ⟨by have := HK1.out; omega⟩, ⟨by (with_reducible repeat (first | apply Kd.R_alloc | apply Kd.R_drewN | apply Kd.R_drew)); exact HO202.out⟩, ⟨by repeat (first | (with_reducible first | exact HB.out | apply below_alloc | apply pw_below_drewN | apply below_drew1) | exact HB.out)⟩⟩
      ·rw [if_neg c11] at H
       exact absurd H zb45
    ·rw [if_neg c3] at H
     exact absurd H zb45
   ·rw [if_neg c2] at H
    have c2b0 : decide (x4_1 < (a0.size : Int)) = false := decide_eq_false c2
    clear c2
    obtain rfl := Option.some.inj H
    have hcv13 := own_string (P := Tryz.prog) Tryz.underlying31 Tryz.underlying5 Tryz.underlying9 (Kd.own_of_R HO_3.out)
    have hcvq13 := fun n_ => own_string (P := Tryz.prog) Tryz.underlying31 Tryz.underlying5 Tryz.underlying9 (Kd.own_of_R (Kd.R_drewN HO_3.out n_))
    go_wp2
    go_ret
    exact ⟨zb6, zb0⟩
end Go.Proofs.YtghfbhobpodoeaaGreatDoor.P
