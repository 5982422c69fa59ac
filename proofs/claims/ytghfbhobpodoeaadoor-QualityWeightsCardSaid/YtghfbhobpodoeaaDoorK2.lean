/- Texts of this seat, joined: lemmas and walks that its statements' proofs use. -/
import GoSem.Core.Float
import Derived.Test.YtghfbhobpodoeaaDoorK1
import Derived.Lib.Hide
import Derived.Laws.Externs
import Derived.Laws.FloatArith
import Derived.Deep.DeepCutAuto
import Derived.Deep.CutBlock
import Derived.Laws.IdiomArrays
/- SpFl -/
namespace Go.Proofs.YtghfbhobpodoeaaDoor.Sp
open Go Ieee
set_option linter.unusedVariables false
set_option linter.unusedSimpArgs false
abbrev infR : Nat := 9218868437227405312
def negB (x : Nat) : Bool := x / 2 ^ 63 % 2 == 1
def rungN (x : Nat) : Nat := x % 2 ^ 63
def nanB (x : Nat) : Bool := decide (infR < rungN x)
def keyI (x : Nat) : Int := if negB x then -(rungN x : Int) else (rungN x : Int)
def valN (r : Nat) : Nat := if r < 2 ^ 52 then r else (2 ^ 52 + r % 2 ^ 52) * 2 ^ (r / 2 ^ 52 - 1)
theorem val_lt {r s : Nat} (h : r < s) : valN r < valN s := by
  unfold valN
  by_cases h1 : s < 2 ^ 52
  · rw [if_pos h1, if_pos (by omega)]
    exact h
  · rw [if_neg h1]
    have hp : 1 ≤ 2 ^ (s / 2 ^ 52 - 1) := Nat.one_le_two_pow
    by_cases h2 : r < 2 ^ 52
    · rw [if_pos h2]
      calc r < 2 ^ 52 := h2
        _ ≤ 2 ^ 52 + s % 2 ^ 52 := Nat.le_add_right _ _
        _ = (2 ^ 52 + s % 2 ^ 52) * 1 := (Nat.mul_one _).symm
        _ ≤ _ := Nat.mul_le_mul_left _ hp
    · rw [if_neg h2]
      have hd : r / 2 ^ 52 ≤ s / 2 ^ 52 := Nat.div_le_div_right (Nat.le_of_lt h)
      rcases Nat.lt_or_ge (r / 2 ^ 52) (s / 2 ^ 52) with hlt | hge
      · have h3 : 2 ^ 52 + r % 2 ^ 52 < 2 ^ 53 := by omega
        have h4 : 1 ≤ r / 2 ^ 52 := by omega
        calc (2 ^ 52 + r % 2 ^ 52) * 2 ^ (r / 2 ^ 52 - 1) < 2 ^ 53 * 2 ^ (r / 2 ^ 52 - 1) := Nat.mul_lt_mul_of_pos_right h3 (Nat.two_pow_pos _)
          _ = 2 ^ 52 * 2 ^ (r / 2 ^ 52) := by
            rw [← Nat.pow_add, ← Nat.pow_add]
            congr 1
            omega
          _ ≤ 2 ^ 52 * 2 ^ (s / 2 ^ 52 - 1) := Nat.mul_le_mul_left _ (Nat.pow_le_pow_right (by omega) (by omega))
          _ ≤ _ := Nat.mul_le_mul_right _ (Nat.le_add_right _ _)
      · have he : r / 2 ^ 52 = s / 2 ^ 52 := by omega
        rw [he]
        refine Nat.mul_lt_mul_of_pos_right ?_ (Nat.two_pow_pos _)
        omega
theorem val_lt_iff {r s : Nat} : valN r < valN s ↔ r < s := by
  refine ⟨fun h => ?_, val_lt⟩
  rcases Nat.lt_trichotomy r s with h1 | h1 | h1
  · exact h1
  · subst h1; omega
  · have := val_lt h1; omega
theorem fl_sw : double.signWeight = 2 ^ 63 := by decide
theorem fl_bin : double.binade = 2 ^ 52 := by decide
theorem fl_inf : double.infRung = infR := by decide
theorem fl_lea : double.leastPlace = -1074 := by decide
theorem read_num {x : Nat} (h : rungN x < infR) : ∃ (m : Nat) (i : Int), double.read x = .number (negB x) m i ∧ -1074 ≤ i ∧ m * 2 ^ (i + 1074).toNat = valN (rungN x) := by
  unfold Format.read
  simp only [fl_sw, fl_bin, fl_inf, fl_lea]
  have h' : x % 2 ^ 63 < infR := h
  by_cases h1 : x % 2 ^ 63 < 2 ^ 52
  · rw [if_pos h1]
    refine ⟨_, _, rfl, by omega, ?_⟩
    unfold valN rungN
    rw [if_pos h1]
    simp
  · rw [if_neg h1, if_pos h']
    refine ⟨_, _, rfl, by omega, ?_⟩
    unfold valN rungN
    rw [if_neg h1]
    congr 2
    omega
theorem read_inf {x : Nat} (h : rungN x = infR) : double.read x = .infinity (negB x) := by
  unfold Format.read
  simp only [fl_sw, fl_bin, fl_inf, fl_lea]
  have h' : x % 2 ^ 63 = infR := h
  rw [if_neg (by rw [h']; decide), if_neg (by rw [h']; decide), if_pos h']
  rfl
theorem read_nan {x : Nat} (h : infR < rungN x) : ∃ f, double.read x = .nan (negB x) f := by
  unfold Format.read
  simp only [fl_sw, fl_bin, fl_inf, fl_lea]
  have h' : infR < x % 2 ^ 63 := h
  rw [if_neg (by unfold infR at h'; omega), if_neg (by omega), if_neg (by omega)]
  exact ⟨_, rfl⟩
theorem cmp_int (a b : Int) : compare a b = if a < b then .lt else if a = b then .eq else .gt := rfl
theorem cmp_same {a b c d : Int} (h1 : a < b ↔ c < d) (h2 : a = b ↔ c = d) : compare a b = compare c d := by
  rw [cmp_int, cmp_int]
  simp only [h1, h2]
theorem cmp_lt {a b : Int} (h : a < b) : compare a b = .lt := by rw [cmp_int, if_pos h]
theorem cmp_gt {a b : Int} (h : b < a) : compare a b = .gt := by rw [cmp_int, if_neg (by omega), if_neg (by omega)]
theorem order_num {s t : Bool} {m n : Nat} {i j : Int} {r q : Nat} (hi : -1074 ≤ i) (hj : -1074 ≤ j) (h1 : m * 2 ^ (i + 1074).toNat = valN r) (h2 : n * 2 ^ (j + 1074).toNat = valN q) :
    Datum.order (.number s m i) (.number t n j) = some (compare (if s then -(r : Int) else r) (if t then -(q : Int) else q)) := by
  simp only [Datum.order, signed]
  congr 1
  generalize hb : min i j = b
  have hb1 : b ≤ i := by omega
  have hb2 : b ≤ j := by omega
  have hb3 : -1074 ≤ b := by omega
  have e1 : (m <<< (i - b).toNat) * 2 ^ (b + 1074).toNat = valN r := by
    rw [← h1, Nat.shiftLeft_eq, Nat.mul_assoc, ← Nat.pow_add]
    congr 2
    omega
  have e2 : (n <<< (j - b).toNat) * 2 ^ (b + 1074).toNat = valN q := by
    rw [← h2, Nat.shiftLeft_eq, Nat.mul_assoc, ← Nat.pow_add]
    congr 2
    omega
  generalize m <<< (i - b).toNat = M at *
  generalize n <<< (j - b).toNat = N at *
  have hp := Nat.two_pow_pos (b + 1074).toNat
  generalize 2 ^ (b + 1074).toNat = p at *
  have k1 : M < N ↔ r < q := by rw [← val_lt_iff (r := r) (s := q), ← e1, ← e2]; exact (Nat.mul_lt_mul_right hp).symm
  have k2 : N < M ↔ q < r := by rw [← val_lt_iff (r := q) (s := r), ← e1, ← e2]; exact (Nat.mul_lt_mul_right hp).symm
  have z0 : valN 0 = 0 := by decide
  have k3 : 0 < M ↔ 0 < r := by
    rw [← val_lt_iff (r := 0) (s := r), ← e1, z0]
    exact ⟨fun h => Nat.mul_pos h hp, fun h => Nat.pos_of_mul_pos_right h⟩
  have k4 : 0 < N ↔ 0 < q := by
    rw [← val_lt_iff (r := 0) (s := q), ← e2, z0]
    exact ⟨fun h => Nat.mul_pos h hp, fun h => Nat.pos_of_mul_pos_right h⟩
  apply cmp_same
  · cases s <;> cases t <;> simp only [Bool.false_eq_true, if_true, if_false] <;> omega
  · cases s <;> cases t <;> simp only [Bool.false_eq_true, if_true, if_false] <;> omega
theorem order_key {x y : Nat} (hx : nanB x = false) (hy : nanB y = false) : FloatKind.f64.format.order x y = some (compare (keyI x) (keyI y)) := by
  have hx' : rungN x ≤ infR := by simpa [nanB] using hx
  have hy' : rungN y ≤ infR := by simpa [nanB] using hy
  show (double.read x).order (double.read y) = _
  rcases Nat.lt_or_eq_of_le hx' with h1 | h1
  · obtain ⟨m, i, e1, hi, v1⟩ := read_num h1
    rcases Nat.lt_or_eq_of_le hy' with h2 | h2
    · obtain ⟨n, j, e2, hj, v2⟩ := read_num h2
      rw [e1, e2, order_num hi hj v1 v2]
      rfl
    · rw [e1, read_inf h2]
      simp only [Datum.order, keyI]
      rw [h2]
      generalize infR = R at *
      cases negB y <;> cases negB x <;> simp only [Bool.false_eq_true, if_true, if_false] <;> first | exact congrArg some (cmp_lt (by omega)).symm | exact congrArg some (cmp_gt (by omega)).symm
  · rcases Nat.lt_or_eq_of_le hy' with h2 | h2
    · obtain ⟨n, j, e2, hj, v2⟩ := read_num h2
      rw [e2, read_inf h1]
      simp only [Datum.order, keyI]
      rw [h1]
      generalize infR = R at *
      cases negB y <;> cases negB x <;> simp only [Bool.false_eq_true, if_true, if_false] <;> first | exact congrArg some (cmp_lt (by omega)).symm | exact congrArg some (cmp_gt (by omega)).symm
    · rw [read_inf h1, read_inf h2]
      simp only [Datum.order, keyI]
      rw [h1, h2]
      cases negB y <;> cases negB x <;> decide
theorem order_nanL {x y : Nat} (hx : nanB x = true) : FloatKind.f64.format.order x y = none := by
  obtain ⟨f, h⟩ := read_nan (x := x) (by simpa [nanB] using hx)
  show (double.read x).order (double.read y) = _
  rw [h]
  rfl
theorem order_nanR {x y : Nat} (hy : nanB y = true) : FloatKind.f64.format.order x y = none := by
  obtain ⟨f, h⟩ := read_nan (x := y) (by simpa [nanB] using hy)
  show (double.read x).order (double.read y) = _
  rw [h]
  cases double.read x <;> rfl
end Go.Proofs.YtghfbhobpodoeaaDoor.Sp
/- Oflt -/
namespace Go.Proofs.YtghfbhobpodoeaaDoor.O
open Go.RowKit Go.Proofs.YtghfbhobpodoeaaDoorW.PrintWords Go.Proofs.YtghfbhobpodoeaaDoorW.PrintLast Go.Proofs.YtghfbhobpodoeaaDoorW.PrintMore
set_option linter.unusedVariables false
set_option linter.unusedSimpArgs false
theorem bits_run (b : Nat) (w : World) : (callFunc 32 #[.float .f64 b]).run Tryd.prog w = .ok (.value (.int .u64 b)) w := by
  rw [run_callFunc_extern (e := Extern.MathFloatBits.float64bits) Tryd.func32 zb15 zb15 zb15 zb15]
  rfl
theorem frombits_run (n : Int) (w : World) : (callFunc 44 #[.int .u64 n]).run Tryd.prog w = .ok (.value (.float .f64 n.toNat)) w := by
  rw [run_callFunc_extern (e := Extern.MathFloatBits.float64frombits) Tryd.func44 zb15 zb15 zb15 zb15]
  rfl
def math_Signbit.f (a0 : Nat) : Option Bool := some (decide (wrap64 (a0 : Int) < 0))
theorem math_Signbit.calls (a0 : Nat) (r : Bool) (w : World) (h : math_Signbit.f a0 = some r) :
    Calls Tryd.prog 21 #[.float .f64 a0] w fun e w' => e = .returned (.bool r) ∧ Drawn0 w w' := by
  obtain rfl := Option.some.inj h
  clear h
  have hx := bits_run a0
  go_enter Tryd.func21, Tryd.ntmps21
  go_wp2
  go_ret
  exact ⟨rfl, Drawn0.refl _⟩
def math_NaN.f : Option Nat := some 9221120237041090561
theorem math_NaN.calls (r : Nat) (w : World) (h : math_NaN.f = some r) :
    Calls Tryd.prog 28 #[] w fun e w' => e = .returned (.float .f64 r) ∧ Drawn0 w w' := by
  obtain rfl := Option.some.inj h
  clear h
  have hx := frombits_run
  go_enter Tryd.func28, Tryd.ntmps28
  go_wp2
  go_ret
  exact ⟨rfl, Drawn0.refl _⟩
def one64 : Nat := 4607182418800017408
def clampW (a : Nat) : Nat := if (FloatKind.f64.format.order a 0 == some .gt) = true then (match FloatKind.f64.format.order a one64 with
  | some .lt => a
  | some .eq => if (FloatKind.f64.decode a).neg then a else one64
  | _ => one64) else 0
def quality_Clamp.f (a0 : Nat) : Option Nat := some (clampW a0)
theorem min_run {P : Program} (ts : Array TypeId) (t : TypeId) (x y : Nat) (o : Ordering) (ho : FloatKind.f64.format.order x y = some o) (w : World) :
    (Builtin.min_ ts t #[.float .f64 x, .float .f64 y]).run P w = .ok (.float .f64 (match o with
      | .lt => x
      | .gt => y
      | .eq => if (FloatKind.f64.decode x).neg then x else y)) w := by
  simp only [Builtin.min_, Builtin.min2, ho, List.foldlM]
  cases o <;> simp [Builtin.min2, ho]
theorem quality_Clamp.calls (a0 : Nat) (r : Nat) (w : World) (h : quality_Clamp.f a0 = some r) :
    Calls Tryd.prog 19 #[.float .f64 a0] w fun e w' => e = .returned (.float .f64 r) ∧ Drawn0 w w' := by
  obtain rfl := Option.some.inj h
  clear h
  by_cases hg : (FloatKind.f64.format.order a0 0 == some .gt) = true
  · have hg' : Hid ((FloatKind.f64.format.order a0 0 == some .gt) = true) := Lib.hid hg
    obtain ⟨o, ho⟩ : ∃ o, FloatKind.f64.format.order a0 one64 = some o := by
      cases hn : Sp.nanB a0 with
      | true => rw [Sp.order_nanL hn] at hg; exact absurd hg (by decide)
      | false => exact ⟨_, Sp.order_key hn (by decide)⟩
    obtain ⟨q, hq, hm⟩ : ∃ q, clampW a0 = q ∧ ∀ (ts : Array TypeId) (t : TypeId) (w : World), (Builtin.min_ ts t #[.float .f64 a0, .float .f64 4607182418800017408]).run Tryd.prog w = .ok (.float .f64 q) w := by
      refine ⟨_, ?_, fun ts t w => min_run ts t a0 4607182418800017408 o ho w⟩
      unfold clampW
      rw [if_pos hg'.out, ho]
      cases o <;> rfl
    rw [hq]
    clear hq ho
    go_enter Tryd.func19, Tryd.ntmps19
    go_wp2
    go_ret
    exact ⟨rfl, Drawn0.refl _⟩
  · have hg' : Hid (¬ (FloatKind.f64.format.order a0 0 == some .gt) = true) := Lib.hid hg
    have hgf : (FloatKind.f64.format.order a0 0 == some .gt) = false := by simpa using hg
    go_enter Tryd.func19, Tryd.ntmps19
    go_wp2
    go_ret
    refine ⟨?_, Drawn0.refl _⟩
    unfold clampW
    rw [if_neg hg'.out]
    rfl
def rankW (a : Nat) : Int := if (FloatKind.f64.format.order a a != some .eq) = true then 3 else if (FloatKind.f64.format.order a 0 == some .lt) = true then 2 else if (FloatKind.f64.format.order a 0 == some .eq) = true then (if Sp.negB a = true then 1 else 0) else 0
def ref14_rank.f (a0 : Nat) : Option Int := some (rankW a0)
theorem zero_read {a : Nat} (h : (FloatKind.f64.format.order a 0 == some .eq) = true) : Ieee.double.read a = .number (Sp.negB a) 0 (-1074) := by
  cases hn : Sp.nanB a with
  | true => rw [Sp.order_nanL hn] at h; exact absurd h (by decide)
  | false =>
    rw [Sp.order_key hn (by decide)] at h
    have h2 : Sp.keyI a = Sp.keyI 0 := by
      have h1 : compare (Sp.keyI a) (Sp.keyI 0) = .eq := by simpa using h
      rw [Sp.cmp_int] at h1
      split at h1
      · cases h1
      · split at h1
        · assumption
        · cases h1
    have h3 : Sp.rungN a = 0 := by
      have h4 : Sp.keyI 0 = 0 := by decide
      rw [h4] at h2
      unfold Sp.keyI at h2
      split at h2 <;> omega
    unfold Ieee.Format.read
    simp only [Sp.fl_sw, Sp.fl_bin, Sp.fl_inf, Sp.fl_lea]
    have h5 : a % 2 ^ 63 = 0 := h3
    rw [h5, if_pos (by decide)]
    rfl
theorem one_read : Ieee.double.read 4607182418800017408 = .number false 4503599627370496 (-52) := by decide +kernel
theorem quo_zero {a : Nat} (h : (FloatKind.f64.format.order a 0 == some .eq) = true) : floatBits .quo .f64 4607182418800017408 a = some (Ieee.double.word (Sp.negB a) Sp.infR) := by
  show Ieee.double.div 4607182418800017408 a = _
  unfold Ieee.Format.div
  rw [zero_read h, one_read]
  cases Sp.negB a <;> decide +kernel
theorem inf_lss (s : Bool) : (FloatKind.f64.format.order (Ieee.double.word s Sp.infR) 0 == some .lt) = s := by cases s <;> decide +kernel
theorem ref14_rank.calls (a0 : Nat) (r : Int) (w : World) (h : ref14_rank.f a0 = some r) :
    Calls Tryd.prog 31 #[.float .f64 a0] w fun e w' => e = .returned (.int .i64 r) ∧ Drawn0 w w' := by
  obtain rfl := Option.some.inj h
  clear h
  by_cases h1 : (FloatKind.f64.format.order a0 a0 != some .eq) = true
  · have g1 := Lib.hid h1
    go_enter Tryd.func31, Tryd.ntmps31
    go_wp2
    go_ret
    exact ⟨by unfold rankW; rw [if_pos g1.out]; rfl, Drawn0.refl _⟩
  · have g1 := Lib.hid h1
    have f1 : (FloatKind.f64.format.order a0 a0 != some .eq) = false := by simpa using h1
    clear h1
    by_cases h2 : (FloatKind.f64.format.order a0 0 == some .lt) = true
    · have g2 := Lib.hid h2
      go_enter Tryd.func31, Tryd.ntmps31
      go_wp2
      go_ret
      exact ⟨by unfold rankW; rw [if_neg g1.out, if_pos g2.out]; rfl, Drawn0.refl _⟩
    · have g2 := Lib.hid h2
      have f2 : (FloatKind.f64.format.order a0 0 == some .lt) = false := by simpa using h2
      clear h2
      by_cases h3 : (FloatKind.f64.format.order a0 0 == some .eq) = true
      · have g3 := Lib.hid h3
        have hq := fun (t : TypeId) (w : World) => run_float_arith (P := Tryd.prog) (w := w) .quo t .f64 4607182418800017408 a0 _ (quo_zero h3)
        have hl := inf_lss (Sp.negB a0)
        generalize Ieee.double.word (Sp.negB a0) Sp.infR = q at hq hl
        cases hs : Sp.negB a0 with
        | true =>
          have gs := Lib.hid hs
          rw [hs] at hl
          clear hs
          go_enter Tryd.func31, Tryd.ntmps31
          go_wp2
          go_ret
          exact ⟨by unfold rankW; rw [if_neg g1.out, if_neg g2.out, if_pos g3.out, if_pos gs.out]; rfl, Drawn0.refl _⟩
        | false =>
          have gs := Lib.hid hs
          rw [hs] at hl
          clear hs
          go_enter Tryd.func31, Tryd.ntmps31
          go_wp2
          go_ret
          exact ⟨by unfold rankW; rw [if_neg g1.out, if_neg g2.out, if_pos g3.out, if_neg (by rw [gs.out]; decide)]; rfl, Drawn0.refl _⟩
      · have g3 := Lib.hid h3
        have f3 : (FloatKind.f64.format.order a0 0 == some .eq) = false := by simpa using h3
        clear h3
        go_enter Tryd.func31, Tryd.ntmps31
        go_wp2
        go_ret
        exact ⟨by unfold rankW; rw [if_neg g1.out, if_neg g2.out, if_neg g3.out]; rfl, Drawn0.refl _⟩
def digS : ByteArray := ⟨#[48, 49, 50, 51, 52, 53, 54, 55, 56, 57]⟩
def nanW : Nat := 9221120237041090561
def fdiv (n : Nat) : Nat := (floatBits .quo .f64 (floatOfInt .f64 n) 4652007308841189376).getD 0
theorem fdiv_all : ∀ a : Fin 1001, floatBits .quo .f64 (floatOfInt .f64 (a.val : Int)) 4652007308841189376 = some (fdiv a.val) := by decide +kernel
theorem fdiv_run (n : Int) (h0 : 0 ≤ n) (h1 : n ≤ 1000) : floatBits .quo .f64 (floatOfInt .f64 n) 4652007308841189376 = some (fdiv n.toNat) := by
  have := fdiv_all ⟨n.toNat, by omega⟩
  simpa [Int.toNat_of_nonneg h0] using this
def weiN (a : ByteArray) : Int := (atoiF ((cutF a (⟨#[46]⟩ : ByteArray)).1 ++ ((cutF a (⟨#[46]⟩ : ByteArray)).2.1 ++ (⟨#[48, 48, 48]⟩ : ByteArray)).extract 0 3).data.toList).1
def weiBad (a : ByteArray) : Prop := ((cutF a (⟨#[46]⟩ : ByteArray)).1.toList ≠ [48] ∧ (cutF a (⟨#[46]⟩ : ByteArray)).1.toList ≠ [49]) ∨ 3 < (cutF a (⟨#[46]⟩ : ByteArray)).2.1.size ∨ Lib.trimS (cutF a (⟨#[46]⟩ : ByteArray)).2.1.data.toList digS.data.toList ≠ []
instance (a : ByteArray) : Decidable (weiBad a) := by unfold weiBad; infer_instance
def quality_Weight.f (a0 : ByteArray) : Option Nat := if a0.size < 4294967281 then (if weiBad a0 then some nanW else if weiN a0 > 1000 then some nanW else if 0 ≤ weiN a0 then some (fdiv (weiN a0).toNat) else none) else none
theorem cut_size (s sep : ByteArray) : (cutF s sep).1.size ≤ s.size ∧ (cutF s sep).2.1.size ≤ s.size := by
  have h1 : ∀ l : List UInt8, (⟨l.toArray⟩ : ByteArray).size = l.length := fun l => by rw [Lib.size_eq]
  unfold cutF Lib.cut
  simp only [h1, Lib.size_eq]
  split <;> simp <;> omega
set_option maxHeartbeats 1000000 in
set_option maxRecDepth 100000 in
theorem quality_Weight.calls (a0 : ByteArray) (r : Nat) (w : World) (hG : Glob w) (h : quality_Weight.f a0 = some r) :
    Calls Tryd.prog 15 #[.string a0] w fun e w' => e = .returned (.float .f64 r) ∧ Below w.heap.size w w' := by
  unfold quality_Weight.f at h
  split at h
  case isFalse => exact absurd h (by simp)
  rename_i hsz
  have hC : strings_Cut.f a0 (⟨#[46]⟩ : ByteArray) = some ((cutF a0 (⟨#[46]⟩ : ByteArray)).1, (cutF a0 (⟨#[46]⟩ : ByteArray)).2.1, (cutF a0 (⟨#[46]⟩ : ByteArray)).2.2) := by unfold strings_Cut.f; rw [if_pos hsz]
  have HC := Lib.hid (strings_Cut.calls a0 (⟨#[46]⟩ : ByteArray) _ _ _ w hG hC)
  have HN := Lib.hid (fun w => math_NaN.calls nanW w rfl)
  have hG' := Lib.hid hG
  obtain ⟨hw1, hw2⟩ := cut_size a0 (⟨#[46]⟩ : ByteArray)
  have hbad : Hid (weiBad a0 ↔ ((cutF a0 (⟨#[46]⟩ : ByteArray)).1.toList ≠ [48] ∧ (cutF a0 (⟨#[46]⟩ : ByteArray)).1.toList ≠ [49]) ∨ 3 < (cutF a0 (⟨#[46]⟩ : ByteArray)).2.1.size ∨ Lib.trimS (cutF a0 (⟨#[46]⟩ : ByteArray)).2.1.data.toList digS.data.toList ≠ []) := Lib.hid Iff.rfl
  have hwn : Hid (weiN a0 = (atoiF ((cutF a0 (⟨#[46]⟩ : ByteArray)).1 ++ ((cutF a0 (⟨#[46]⟩ : ByteArray)).2.1 ++ (⟨#[48, 48, 48]⟩ : ByteArray)).extract 0 3).data.toList).1) := Lib.hid rfl
  clear hC hG
  generalize (cutF a0 (⟨#[46]⟩ : ByteArray)).1 = W at *
  generalize (cutF a0 (⟨#[46]⟩ : ByteArray)).2.1 = p at *
  generalize (cutF a0 (⟨#[46]⟩ : ByteArray)).2.2 = ok at *
  have hr := Lib.hid h
  clear h
  by_cases hA : W.toList ≠ [48] ∧ W.toList ≠ [49]
  · have e1 : (W.toList == [48]) = false := by simpa using hA.1
    have e2 : (W.toList == [49]) = false := by simpa using hA.2
    have e3 : (W.toList != [48]) = true := by simp [bne, e1]
    have e4 : (W.toList != [49]) = true := by simp [bne, e2]
    have hr2 : Hid (nanW = r) := Lib.hid (by have := hr.out; rw [if_pos (hbad.out.2 (.inl hA))] at this; exact Option.some.inj this)
    clear hA
    go_enter Tryd.func15, Tryd.ntmps15
    go_wp2_with (first | (go_at_call 27; refine HC.out.mono ?_; rintro e w1 ⟨rfl, hb1⟩; have hb1 := Lib.hid hb1) | (go_at_call 28; refine (HN.out _).mono ?_; rintro e w2 ⟨rfl, hd2⟩; have hd2 := Lib.hid hd2))
    go_ret
    exact ⟨by rw [← hr2.out]; rfl, hb1.out.trans (hd2.out.below.mono hb1.out.size)⟩
  · have hA2 : W.toList = [48] ∨ W.toList = [49] := by
      by_cases h1 : W.toList = [48]
      · exact .inl h1
      · exact .inr (Classical.byContradiction fun h2 => hA ⟨h1, h2⟩)
    have hWs : W.size = 1 := by
      have h1 : W.size = W.toList.length := by rw [Lib.toList_data]; exact Lib.size_eq W
      rcases hA2 with h2 | h2 <;> rw [h1, h2] <;> rfl
    have hcond : Hid (∀ {α : Type} (x y : α), (if W.toList ≠ [48] ∧ W.toList ≠ [49] then x else y) = y) := Lib.hid (fun x y => if_neg hA)
    by_cases hB : 3 < p.size
    · have hr2 : Hid (nanW = r) := Lib.hid (by have := hr.out; rw [if_pos (hbad.out.2 (.inr (.inl hB)))] at this; exact Option.some.inj this)
      have hB' : (3 : Int) < (p.size : Int) := by omega
      rcases hA2 with h48 | h49
      · have e1 : (W.toList == [48]) = true := by rw [h48]; rfl
        have e3 : (W.toList != [48]) = false := by simp [bne, e1]
        clear h48 hA hcond
        go_enter Tryd.func15, Tryd.ntmps15
        go_wp2_with (first | (go_at_call 27; refine HC.out.mono ?_; rintro e w1 ⟨rfl, hb1⟩; have hb1 := Lib.hid hb1) | (go_at_call 28; refine (HN.out _).mono ?_; rintro e w2 ⟨rfl, hd2⟩; have hd2 := Lib.hid hd2))
        go_ret
        exact ⟨by rw [← hr2.out]; rfl, hb1.out.trans (hd2.out.below.mono hb1.out.size)⟩
      · have e0 : (W.toList == [48]) = false := by rw [h49]; rfl
        have e3 : (W.toList != [48]) = true := by simp [bne, e0]
        have e1 : (W.toList == [49]) = true := by rw [h49]; rfl
        have e4 : (W.toList != [49]) = false := by simp [bne, e1]
        clear h49 hA hcond
        go_enter Tryd.func15, Tryd.ntmps15
        go_wp2_with (first | (go_at_call 27; refine HC.out.mono ?_; rintro e w1 ⟨rfl, hb1⟩; have hb1 := Lib.hid hb1) | (go_at_call 28; refine (HN.out _).mono ?_; rintro e w2 ⟨rfl, hd2⟩; have hd2 := Lib.hid hd2))
        go_ret
        exact ⟨by rw [← hr2.out]; rfl, hb1.out.trans (hd2.out.below.mono hb1.out.size)⟩
    · obtain ⟨t, ht⟩ : ∃ t, t = (⟨(Lib.trimS p.data.toList digS.data.toList).toArray⟩ : ByteArray) := ⟨_, rfl⟩
      have HT := Lib.hid (fun w => strings_Trim.calls p digS t w (by rw [ht] <;> exact if_pos ⟨by omega, by decide, by decide⟩))
      unfold digS at HT
      have hte : Hid (t.toList = [] ↔ Lib.trimS p.data.toList digS.data.toList = []) := Lib.hid (by rw [ht, Lib.toList_data] <;> simp)
      clear ht
      have hB' : ¬ (3 : Int) < (p.size : Int) := by omega
      have hBd : decide ((3 : Int) < (p.size : Int)) = false := decide_eq_false hB'
      by_cases hT : t.toList = []
      · obtain ⟨n, hn⟩ : ∃ n, n = weiN a0 := ⟨_, rfl⟩
        have hnb : ¬ weiBad a0 := fun hb => by
          rcases hbad.out.1 hb with h1 | h1 | h1
          · exact hA h1
          · exact hB h1
          · exact h1 (hte.out.1 hT)
        have hr3 : Hid ((if n > 1000 then some nanW else if 0 ≤ n then some (fdiv n.toNat) else none) = some r) := Lib.hid (by have := hr.out; rw [if_neg hnb, ← hn] at this; exact this)
        obtain ⟨m, hm⟩ : ∃ m, m = W ++ (p ++ (⟨#[48, 48, 48]⟩ : ByteArray)).extract 0 3 := ⟨_, rfl⟩
        have hps : (p ++ (⟨#[48, 48, 48]⟩ : ByteArray)).size = p.size + 3 := by rw [ByteArray.size_append]; rfl
        have hes : ((p ++ (⟨#[48, 48, 48]⟩ : ByteArray)).extract 0 3).size = 3 := by rw [ByteArray.size_extract, hps]; omega
        have hms : m.size = 4 := by rw [hm, ByteArray.size_append, hes, hWs]
        have hat : strconv_Atoi.f m = some ((atoiF m.data.toList).1, (atoiF m.data.toList).2) := by unfold strconv_Atoi.f; rw [if_pos zb37]
        have hn2 : n = (atoiF m.data.toList).1 := by rw [hn, hwn.out, hm]
        rw [← hn2] at hat
        have HA := Lib.hid (fun w (hg : Glob w) => strconv_Atoi.calls m n _ w hg hat)
        have hmm := hm.symm
        have hT1 : (t.toList == []) = true := by rw [hT]; rfl
        clear hat hn2 hn hm hnb hte hbad hwn hr hT
        rcases hA2 with h48 | h49
        · have e1 : (W.toList == [48]) = true := by rw [h48]; rfl
          have e3 : (W.toList != [48]) = false := by simp [bne, e1]
          clear h48 hA hcond
          by_cases hbig : n > 1000
          · have hr2 : Hid (nanW = r) := Lib.hid (by have := hr3.out; rw [if_pos hbig] at this; exact Option.some.inj this)
            have hbig' : (1000 : Int) < n := hbig
            clear hr3
            go_enter Tryd.func15, Tryd.ntmps15
            go_wp2_with (first | (go_at_call 27; refine HC.out.mono ?_; rintro e w1 ⟨rfl, hb1⟩; have hb1 := Lib.hid hb1) | (go_at_call 23; refine (HT.out _).mono ?_; rintro e w2 ⟨rfl, hb2⟩; have hb2 := Lib.hid (below_step hb1.out hb2)) | (go_at_call 29; refine (HA.out _ (Glob.below hG'.out hb2.out)).mono ?_; rintro e w3 ⟨pv, hpv, rfl, hb3⟩; have hb3 := Lib.hid (below_step hb2.out hb3)) | (go_at_call 28; refine (HN.out _).mono ?_; rintro e w4 ⟨rfl, hd4⟩; have hd4 := Lib.hid hd4))
            go_ret
            exact ⟨by rw [← hr2.out]; rfl, below_step hb3.out hd4.out.below⟩
          · by_cases h0 : 0 ≤ n
            · have hr2 : Hid (fdiv n.toNat = r) := Lib.hid (by have := hr3.out; rw [if_neg hbig, if_pos h0] at this; exact Option.some.inj this)
              have hbig' : decide ((1000 : Int) < n) = false := decide_eq_false hbig
              have hq := fun (t : TypeId) (w : World) => run_float_arith (P := Tryd.prog) (w := w) .quo t .f64 (floatOfInt .f64 n) 4652007308841189376 _ (fdiv_run n h0 zb37)
              have hconv := fun (w : World) => run_convert_int_float (P := Tryd.prog) w 3 27 .i64 .f64 n (by rw [Tryd.underlying3]; rfl) Tryd.underlying27
              generalize floatOfInt .f64 n = fn at hq hconv
              rw [hr2.out] at hq
              clear hr3
              go_enter Tryd.func15, Tryd.ntmps15
              go_wp2_with (first | (go_at_call 27; refine HC.out.mono ?_; rintro e w1 ⟨rfl, hb1⟩; have hb1 := Lib.hid hb1) | (go_at_call 23; refine (HT.out _).mono ?_; rintro e w2 ⟨rfl, hb2⟩; have hb2 := Lib.hid (below_step hb1.out hb2)) | (go_at_call 29; refine (HA.out _ (Glob.below hG'.out hb2.out)).mono ?_; rintro e w3 ⟨pv, hpv, rfl, hb3⟩; have hb3 := Lib.hid (below_step hb2.out hb3)) | (go_at_call 28; refine (HN.out _).mono ?_; rintro e w4 ⟨rfl, hd4⟩; have hd4 := Lib.hid hd4))
              go_ret
              exact ⟨rfl, hb3.out⟩
            · exact absurd hr3.out (by rw [if_neg hbig, if_neg h0]; simp)
        · have e0 : (W.toList == [48]) = false := by rw [h49]; rfl
          have e3 : (W.toList != [48]) = true := by simp [bne, e0]
          have e1 : (W.toList == [49]) = true := by rw [h49]; rfl
          have e4 : (W.toList != [49]) = false := by simp [bne, e1]
          clear h49 hA hcond
          by_cases hbig : n > 1000
          · have hr2 : Hid (nanW = r) := Lib.hid (by have := hr3.out; rw [if_pos hbig] at this; exact Option.some.inj this)
            have hbig' : (1000 : Int) < n := hbig
            clear hr3
            go_enter Tryd.func15, Tryd.ntmps15
            go_wp2_with (first | (go_at_call 27; refine HC.out.mono ?_; rintro e w1 ⟨rfl, hb1⟩; have hb1 := Lib.hid hb1) | (go_at_call 23; refine (HT.out _).mono ?_; rintro e w2 ⟨rfl, hb2⟩; have hb2 := Lib.hid (below_step hb1.out hb2)) | (go_at_call 29; refine (HA.out _ (Glob.below hG'.out hb2.out)).mono ?_; rintro e w3 ⟨pv, hpv, rfl, hb3⟩; have hb3 := Lib.hid (below_step hb2.out hb3)) | (go_at_call 28; refine (HN.out _).mono ?_; rintro e w4 ⟨rfl, hd4⟩; have hd4 := Lib.hid hd4))
            go_ret
            exact ⟨by rw [← hr2.out]; rfl, below_step hb3.out hd4.out.below⟩
          · by_cases h0 : 0 ≤ n
            · have hr2 : Hid (fdiv n.toNat = r) := Lib.hid (by have := hr3.out; rw [if_neg hbig, if_pos h0] at this; exact Option.some.inj this)
              have hbig' : decide ((1000 : Int) < n) = false := decide_eq_false hbig
              have hq := fun (t : TypeId) (w : World) => run_float_arith (P := Tryd.prog) (w := w) .quo t .f64 (floatOfInt .f64 n) 4652007308841189376 _ (fdiv_run n h0 zb37)
              have hconv := fun (w : World) => run_convert_int_float (P := Tryd.prog) w 3 27 .i64 .f64 n (by rw [Tryd.underlying3]; rfl) Tryd.underlying27
              generalize floatOfInt .f64 n = fn at hq hconv
              rw [hr2.out] at hq
              clear hr3
              go_enter Tryd.func15, Tryd.ntmps15
              go_wp2_with (first | (go_at_call 27; refine HC.out.mono ?_; rintro e w1 ⟨rfl, hb1⟩; have hb1 := Lib.hid hb1) | (go_at_call 23; refine (HT.out _).mono ?_; rintro e w2 ⟨rfl, hb2⟩; have hb2 := Lib.hid (below_step hb1.out hb2)) | (go_at_call 29; refine (HA.out _ (Glob.below hG'.out hb2.out)).mono ?_; rintro e w3 ⟨pv, hpv, rfl, hb3⟩; have hb3 := Lib.hid (below_step hb2.out hb3)) | (go_at_call 28; refine (HN.out _).mono ?_; rintro e w4 ⟨rfl, hd4⟩; have hd4 := Lib.hid hd4))
              go_ret
              exact ⟨rfl, hb3.out⟩
            · exact absurd hr3.out (by rw [if_neg hbig, if_neg h0]; simp)
      · have hr2 : Hid (nanW = r) := Lib.hid (by have := hr.out; rw [if_pos (hbad.out.2 (.inr (.inr (fun h => hT (hte.out.2 h)))))] at this; exact Option.some.inj this)
        have hT1 : (t.toList == []) = false := by simpa using hT
        rcases hA2 with h48 | h49
        · have e1 : (W.toList == [48]) = true := by rw [h48]; rfl
          have e3 : (W.toList != [48]) = false := by simp [bne, e1]
          clear h48 hA hcond
          go_enter Tryd.func15, Tryd.ntmps15
          go_wp2_with (first | (go_at_call 27; refine HC.out.mono ?_; rintro e w1 ⟨rfl, hb1⟩; have hb1 := Lib.hid hb1) | (go_at_call 23; refine (HT.out _).mono ?_; rintro e w2 ⟨rfl, hb2⟩; have hb2 := Lib.hid hb2) | (go_at_call 28; refine (HN.out _).mono ?_; rintro e w3 ⟨rfl, hd3⟩; have hd3 := Lib.hid hd3))
          go_ret
          exact ⟨by rw [← hr2.out]; rfl, below_step (below_step hb1.out hb2.out) hd3.out.below⟩
        · have e0 : (W.toList == [48]) = false := by rw [h49]; rfl
          have e3 : (W.toList != [48]) = true := by simp [bne, e0]
          have e1 : (W.toList == [49]) = true := by rw [h49]; rfl
          have e4 : (W.toList != [49]) = false := by simp [bne, e1]
          clear h49 hA hcond
          go_enter Tryd.func15, Tryd.ntmps15
          go_wp2_with (first | (go_at_call 27; refine HC.out.mono ?_; rintro e w1 ⟨rfl, hb1⟩; have hb1 := Lib.hid hb1) | (go_at_call 23; refine (HT.out _).mono ?_; rintro e w2 ⟨rfl, hb2⟩; have hb2 := Lib.hid hb2) | (go_at_call 28; refine (HN.out _).mono ?_; rintro e w3 ⟨rfl, hd3⟩; have hd3 := Lib.hid hd3))
          go_ret
          exact ⟨by rw [← hr2.out]; rfl, below_step (below_step hb1.out hb2.out) hd3.out.below⟩
end Go.Proofs.YtghfbhobpodoeaaDoor.O
/- Oran -/
namespace Go.Proofs.YtghfbhobpodoeaaDoor.O
open Go.RowKit Go.Proofs.YtghfbhobpodoeaaDoorW.PrintWords Go.Proofs.YtghfbhobpodoeaaDoorW.PrintLast Go.Proofs.YtghfbhobpodoeaaDoorW.PrintMore Go.Proofs.YtghfbhobpodoeaaDoor.P Go.Proofs.YtghfbhobpodoeaaDoor.B
set_option linter.unusedVariables false
set_option linter.unusedSimpArgs false
attribute [local go_sem] run_store_float
def cntP : List S48 → Int → Int
  | [], n => n
  | p :: l, n => cntP l (if p.f0.toList = [113] then n else wrap64 (n + 1))
def hund (t : ByteArray) (n : Int) : Int := if t.toList = [42] then n else wrap64 (n + 100)
def narrowF (a b : ByteArray) (l : List S48) : Int := hund b (hund a (cntP l 0))
def rngOne (k : Nat) (t : ByteArray) : Option (Option S70) := (media_Parse.f k t).bind fun p =>
  if p.2.2.2 = 0 then (media_Param.f k p.1 p.2.1 p.2.2.1 (⟨#[113]⟩ : ByteArray)).bind fun q =>
    (if q.2 = true then quality_Weight.f q.1 else some one64).bind fun x => some (some ⟨⟨p.1, p.2.1, p.2.2.1⟩, x, narrowF p.1 p.2.1 p.2.2.1⟩)
  else some none
def rngs (k : Nat) : List ByteArray → List S70 → Option (List S70)
  | [], out => some out
  | t :: r, out => (rngOne k t).bind fun o => match o with
    | none => rngs k r out
    | some x => rngs k r (out ++ [x])
def quality_ranges.f (k : Nat) (a0 : ByteArray) : Option (List S70) := (quality_Split.f a0).bind fun l => if l.length ≤ 1000000000000 then rngs k l [] else none
/-- What stands of one range while it is made: the type's record, the range's record. -/
structure RSt (W2 : World) (gm : Nat) (a b : ByteArray) (A : Option Addr) (n c : Nat) (wt : Nat) (nr : Int) (W : World) : Prop where
  m : W.heap[gm]? = some (.cells #[.string a, .string b, .slice A n c] 45 (0, 0))
  r : W.heap[gm + 1]? = some (.cells #[.string a, .string b, .slice A n c, .float .f64 wt, .int .i64 nr] 70 (0, 0))
  bel : Below W2.heap.size W2 W
  ge : W2.heap.size ≤ gm
theorem RSt.step {W2 W W1 : World} {gm n c wt : Nat} {a b : ByteArray} {A : Option Addr} {nr : Int} (h : RSt W2 gm a b A n c wt nr W) (hb : Below W.heap.size W W1) : RSt W2 gm a b A n c wt nr W1 :=
  ⟨blk_below h.m hb, blk_below h.r hb, below_step h.bel hb, h.ge⟩
theorem meas_ (n N : Nat) (h : n < N) (hw : wrap64 ((n : Int) + 1) = ((n + 1 : Nat) : Int)) : N - (intOf (.int .i64 (wrap64 ((n : Int) + 1)))).toNat < N - (intOf (.int .i64 n)).toNat := by rw [hw]; simp [intOf]; omega
theorem measN_ (n N : Nat) (h : n < N) : N - (intOf (.int .i64 ((n : Int) + 1))).toNat < N - (intOf (.int .i64 n)).toNat := by simp [intOf]; omega
theorem RSt.setw {W2 W : World} {gm n c wt : Nat} {a b : ByteArray} {A : Option Addr} {nr : Int} (h : RSt W2 gm a b A n c wt nr W) (x : Nat) : RSt W2 gm a b A n c x nr (W.setCell ⟨gm + 1, 3, none⟩ (.float .f64 x)) :=
  ⟨(Below.heap_setCell W ⟨gm + 1, 3, none⟩ _ gm (by simp)).trans h.m, blk_put h.r 3 (.float .f64 x) rfl, h.bel.setCell (p := ⟨gm + 1, 3, none⟩) (by show W2.heap.size ≤ gm + 1; have := h.ge; omega) _, h.ge⟩
theorem RSt.setn {W2 W : World} {gm n c wt : Nat} {a b : ByteArray} {A : Option Addr} {nr : Int} (h : RSt W2 gm a b A n c wt nr W) (x : Int) : RSt W2 gm a b A n c wt x (W.setCell ⟨gm + 1, 4, none⟩ (.int .i64 x)) :=
  ⟨(Below.heap_setCell W ⟨gm + 1, 4, none⟩ _ gm (by simp)).trans h.m, blk_put h.r 4 (.int .i64 x) rfl, h.bel.setCell (p := ⟨gm + 1, 4, none⟩) (by show W2.heap.size ≤ gm + 1; have := h.ge; omega) _, h.ge⟩
theorem RSt.al {W2 W : World} {gm n c wt : Nat} {a b : ByteArray} {A : Option Addr} {nr : Int} (h : RSt W2 gm a b A n c wt nr W) (o : Obj) : RSt W2 gm a b A n c wt nr (W.alloc o) := h.step (below_alloc (Below.refl _ _) o)
theorem RSt.c3 {W2 W : World} {gm n c wt : Nat} {a b : ByteArray} {A : Option Addr} {nr : Int} (h : RSt W2 gm a b A n c wt nr W) : W.cell? ⟨gm + 1, 3, none⟩ = some (.float .f64 wt) := (blk_cell h.r 3).trans rfl
theorem RSt.c4 {W2 W : World} {gm n c wt : Nat} {a b : ByteArray} {A : Option Addr} {nr : Int} (h : RSt W2 gm a b A n c wt nr W) : W.cell? ⟨gm + 1, 4, none⟩ = some (.int .i64 nr) := (blk_cell h.r 4).trans rfl
theorem RSt.fz {W2 W : World} {gm n c wt : Nat} {a b : ByteArray} {A : Option Addr} {nr : Int} (h : RSt W2 gm a b A n c wt nr W) (i : Nat) : W.frozen? ⟨gm + 1, i, none⟩ = false := blk_frozen h.r i
theorem rst_new (w : World) (a b : ByteArray) (A : Option Addr) (n c wt : Nat) (nr : Int) : RSt w w.heap.size a b A n c wt nr ((w.alloc (.cells #[.string a, .string b, .slice A n c] 45)).alloc (.cells #[.string a, .string b, .slice A n c, .float .f64 wt, .int .i64 nr] 70)) :=
  ⟨blk_alloc (heap_alloc_new w _) _, by have := heap_alloc_new (w.alloc (.cells #[.string a, .string b, .slice A n c] 45)) (.cells #[.string a, .string b, .slice A n c, .float .f64 wt, .int .i64 nr] 70); simpa using this, below_alloc (below_alloc (Below.refl _ _) _) _, Nat.le_refl _⟩
set_option maxHeartbeats 4000000 in
set_option maxRecDepth 100000 in
theorem quality_ranges.calls (k : Nat) (a0 : ByteArray) (r : List S70) (w : World) (hG : Glob w) (h : quality_ranges.f k a0 = some r) :
    Calls Tryd.prog 25 #[.string a0] w fun e w' => ∃ v0_ : Value, e = .returned v0_ ∧ Kd.S k70 70 w' w.heap.size (fun _ => True) v0_ r ∧ Below w.heap.size w w' := by
  unfold quality_ranges.f at h
  obtain ⟨L, hL, h⟩ := Option.bind_eq_some_iff.1 h
  split at h
  case isFalse => exact absurd h (by simp)
  rename_i hlen
  have HS := Lib.hid (fun W => quality_Split.calls a0 L W hL)
  have hres := Lib.hid h
  have hG' := Lib.hid hG
  clear h hL hG
  have hS0 : Hid (Kd.S k70 70 (w.alloc (.cells #[] 70)) w.heap.size (fun _ => True) (.slice (some ⟨w.heap.size, 0, none⟩) 0 0) []) := Lib.hid ⟨fun _ => 0, fun _ _ => trivial, [], World.ownsRow_lit (base := w.heap.size) (e := 70) (size := 5) w #[] 0 (Nat.le_refl _) (by decide) (by simp), ⟨by simp, by simp⟩⟩
  go_enter Tryd.func25, Tryd.ntmps25
  go_wp2_with (go_at_call 10; refine (HS.out _).mono ?_; rintro e w1 ⟨vL, rfl, hvL, hb1⟩; obtain ⟨AL, cL, rfl, hcL, hrL⟩ := Kd.R_reads hvL; have hRL := Lib.hid hvL; have hb1 := Lib.hid hb1; clear hvL hrL)
  go_loopw [3, 19] (fun vo i wr => ∃ (j : Nat) (out : List S70), i = .int .i64 j ∧ Hid (j ≤ L.length ∧ out.length ≤ j ∧ rngs k (L.drop j) out = some r) ∧ Hid (Kd.R Kd.string 9 wr w.heap.size (fun _ => True) (.slice AL L.length cL) L) ∧ Hid (Kd.S k70 70 wr w.heap.size (fun _ => True) vo out) ∧ Hid (Below w.heap.size w wr)) (fun _ i _ => L.length - (intOf i).toNat)
  case atStart =>
    exact ⟨0, [], rfl, Lib.hid ⟨Nat.zero_le _, Nat.le_refl _, hres.out⟩, Lib.hid (Kd.R_lower hRL.out (by simp)), Lib.hid (Kd.S_below hS0.out hb1.out), Lib.hid (below_step (below_alloc (Below.refl _ _) _) hb1.out)⟩
  case round =>
    obtain ⟨j, out, rfl, hq, hRL2, hS, hB⟩ := hrel
    obtain ⟨h1, h2, h3⟩ := hq.out
    clear hq hRL hS0 hb1
    obtain ⟨B0, hB0⟩ : ∃ B0, wr.heap.size = B0 := ⟨_, rfl⟩
    have hB0 := Lib.hid hB0
    by_cases hlt : j < L.length
    · have hjl : (j : Int) < (L.length : Int) := by omega
      obtain ⟨t, ht⟩ : ∃ t, t = rdOf ByteArray.empty L j := ⟨_, rfl⟩
      have hd : L.drop j = t :: L.drop (j + 1) := by
        rw [List.drop_eq_getElem_cons hlt, ht]
        simp [rdOf, List.getD_eq_getElem?_getD, hlt]
      rw [hd] at h3
      obtain ⟨o, ho, h4⟩ := Option.bind_eq_some_iff.1 h3
      obtain ⟨⟨r1, r2, r3, r4⟩, hp, h5⟩ := Option.bind_eq_some_iff.1 ho
      have HP := Lib.hid (fun W => media_Parse.calls k t r1 r2 r3 r4 W hp)
      have h4 := Lib.hid h4
      have h5 := Lib.hid h5
      have hw1 : wrap64 ((j : Int) + 1) = ((j + 1 : Nat) : Int) := by unfold wrap64; omega
      obtain ⟨_, _, hC⟩ := Kd.R_reads' hRL2.out
      obtain ⟨ad, e0, hcell⟩ := Kd.at_string hC j zb37 hjl
      rw [← ht] at hcell
      have hcell : wr.cell? (ad.add j) = some (.string t) := hcell
      subst e0
      clear h3 hd ho hp hC ht
      by_cases h0 : r4 = 0
      · subst h0
        obtain ⟨x, q1, q2, hpar, hx, h6⟩ : ∃ x q1 q2, media_Param.f k r1 r2 r3 (⟨#[113]⟩ : ByteArray) = some (q1, q2) ∧ (if q2 = true then quality_Weight.f q1 else some one64) = some x ∧ rngs k (L.drop (j + 1)) (out ++ [⟨⟨r1, r2, r3⟩, x, narrowF r1 r2 r3⟩]) = some r := by
          have h7 := h5.out
          simp only [if_true] at h7
          obtain ⟨⟨q1, q2⟩, hpar, h8⟩ := Option.bind_eq_some_iff.1 h7
          obtain ⟨x, hx, h9⟩ := Option.bind_eq_some_iff.1 h8
          obtain rfl := Option.some.inj h9
          exact ⟨x, q1, q2, hpar, hx, h4.out⟩
        have HM := Lib.hid (fun (W : World) (A : Option Addr) (c : Nat) (h1 : Kd.C k48 W A r3.length r3) (h2 : r3.length ≤ c) => media_Param.calls k r1 r2 A c r3 (⟨#[113]⟩ : ByteArray) q1 q2 W h1 h2 hpar)
        have hx := Lib.hid hx
        have h6 := Lib.hid h6
        clear h4 h5 hpar
        go_upto_if 37 with (first | (go_at_call 40; refine (HP.out _).mono ?_; rintro e w2 ⟨v2, rfl, hv2, hb2⟩; obtain ⟨A2, c2, rfl⟩ := Kd.R_slice hv2; have hv2 := Lib.hid hv2; have hb2 := Lib.hid hb2) | (go_at_call 41; refine (HM.out _ A2 c2 (Kd.C_below (Kd.R_reads' hv2.out).2.2 (below_alloc (below_alloc (Below.refl _ _) _) _)) (Kd.R_reads' hv2.out).2.1).mono ?_; rintro e w3 ⟨rfl, hb3⟩; have hst : Hid (RSt w2 w2.heap.size r1 r2 A2 r3.length c2 one64 0 w3) := Lib.hid (RSt.step (rst_new w2 r1 r2 A2 r3.length c2 one64 0) hb3); clear hb3))
        go_cut [] (fun wc => Hid (RSt w2 w2.heap.size r1 r2 A2 r3.length c2 x 0 wc))
        case first =>
          have hc3 := hst.out.c3
          have hf3 := hst.out.fz 3
          have hB3 : Hid (Below w.heap.size w w3) := Lib.hid (below_step (below_step hB.out hb2.out) hst.out.bel)
          cases q2 with
          | true =>
            have HW := Lib.hid (fun W (hg : Glob W) => quality_Weight.calls q1 x W hg hx.out)
            go_wp2_with (go_at_call 15; refine (HW.out _ (Glob.below hG'.out hB3.out)).mono ?_; rintro e w4 ⟨rfl, hb4⟩; have hst4 := Lib.hid (RSt.step hst.out hb4); have hc4 := hst4.out.c3; have hf4 := hst4.out.fz 3; clear hb4)
            go_meet
            case rel => exact Lib.hid (RSt.setw hst4.out x)
          | false =>
            obtain rfl : one64 = x := by simpa using hx.out
            go_wp2
            go_meet
            case rel => exact hst
        case rest =>
          clear hst HM HP hx
          have y2 := (blk_cell hcut.out.m 2).trans (show _ = some (.slice A2 r3.length c2) from rfl)
          go_wp2
          clear y2
          go_loopw [44] (fun i wr2 => ∃ (n : Nat) (nr : Int), i = .int .i64 n ∧ Hid (n ≤ r3.length ∧ cntP (r3.drop n) nr = cntP r3 0) ∧ Hid (RSt w2 w2.heap.size r1 r2 A2 r3.length c2 x nr wr2)) (fun i _ => r3.length - (intOf i).toNat)
          case atStart => exact ⟨0, 0, rfl, Lib.hid ⟨Nat.zero_le _, rfl⟩, hcut⟩
          case round =>
            obtain ⟨n, nr, rfl, hn, hst⟩ := hrel
            clear hcut
            obtain ⟨n1, n2⟩ := hn.out
            clear hn
            have n2 := Lib.hid n2
            by_cases hlt2 : n < r3.length
            · have hnl : (n : Int) < (r3.length : Int) := by omega
              have hC := Kd.C_below (Kd.R_reads' hv2.out).2.2 hst.out.bel
              obtain ⟨ad2, e2, hx0, hx1⟩ := at_T48 hC n zb37 hnl
              obtain ⟨p, hp⟩ : ∃ p, p = rd_T48 r3 n := ⟨_, rfl⟩
              rw [← hp] at hx0 hx1
              have hd : r3.drop n = p :: r3.drop (n + 1) := by
                rw [List.drop_eq_getElem_cons hlt2, hp]
                simp [rd_T48, List.getD_eq_getElem?_getD, hlt2]
              have n3 : Hid (cntP (r3.drop (n + 1)) (if p.f0.toList = [113] then nr else wrap64 (nr + 1)) = cntP r3 0) := Lib.hid (by have := n2.out; rw [hd] at this; exact this)
              have hw2 : wrap64 ((n : Int) + 1) = ((n + 1 : Nat) : Int) := by
                have := hC.2.1
                unfold maxLen at this
                unfold wrap64
                omega
              have hca : ∀ o, (wr.alloc o).cell? ⟨w2.heap.size + 1, 4, none⟩ = some (.int .i64 nr) := fun o => (hst.out.al o).c4
              have hfa : ∀ o, (wr.alloc o).frozen? ⟨w2.heap.size + 1, 4, none⟩ = false := fun o => (hst.out.al o).fz 4
              have hx0 : wr.cell? (ad2.add (n * 2)) = some (.string p.f0) := hx0
              have hx1 : wr.cell? ⟨(ad2.add (n * 2)).block, (ad2.add (n * 2)).off + 1, none⟩ = some (.string p.f1) := hx1
              subst e2
              clear hp hd n2 hC
              by_cases h113 : p.f0.toList = [113]
              · have n4 : Hid (cntP (r3.drop (n + 1)) nr = cntP r3 0) := Lib.hid (by have := n3.out; rwa [if_pos h113] at this)
                have b1 : (p.f0.toList == [113]) = true := by rw [h113]; rfl
                have b2 : (p.f0.toList != [113]) = false := by simp [bne, b1]
                clear h113 n3
                go_wp2
                go_roundw
                case rel => exact ⟨n + 1, nr, by go_num, Lib.hid ⟨hlt2, n4.out⟩, Lib.hid (hst.out.al _)⟩
                case measure => exact meas_ n _ hlt2 hw2
              · have n4 : Hid (cntP (r3.drop (n + 1)) (wrap64 (nr + 1)) = cntP r3 0) := Lib.hid (by have := n3.out; rwa [if_neg h113] at this)
                have b1 : (p.f0.toList == [113]) = false := by simpa using h113
                have b2 : (p.f0.toList != [113]) = true := by simp [bne, b1]
                clear h113 n3
                go_wp2
                go_roundw
                case rel => exact ⟨n + 1, wrap64 (nr + 1), by go_num, Lib.hid ⟨hlt2, n4.out⟩, Lib.hid ((hst.out.al _).setn _)⟩
                case measure => exact meas_ n _ hlt2 hw2
            · obtain rfl : n = r3.length := by omega
              have n3 : nr = cntP r3 0 := by have := n2.out; rwa [List.drop_of_length_le (Nat.le_refl _)] at this
              subst n3
              clear n2
              have y0 := (blk_cell hst.out.m 0).trans (show _ = some (.string r1) from rfl)
              have y1 := (blk_cell hst.out.m 1).trans (show _ = some (.string r2) from rfl)
              go_upto_block 4 with fail
              clear y0 y1
              go_cut [] (fun wc2 => Hid (RSt w2 w2.heap.size r1 r2 A2 r3.length c2 x (narrowF r1 r2 r3) wc2))
              case first =>
                have hN : Hid (narrowF r1 r2 r3 = hund r2 (hund r1 (cntP r3 0))) := Lib.hid rfl
                generalize cntP r3 0 = nr at *
                generalize narrowF r1 r2 r3 = N at *
                have hca : ∀ o, (wr.alloc o).cell? ⟨w2.heap.size + 1, 4, none⟩ = some (.int .i64 nr) := fun o => (hst.out.al o).c4
                have hfa : ∀ o, (wr.alloc o).frozen? ⟨w2.heap.size + 1, 4, none⟩ = false := fun o => (hst.out.al o).fz 4
                cases c1 : (r1.toList == [42]) <;> cases c2 : (r2.toList == [42])
                all_goals
                  have d1 : (r1.toList != [42]) = !(r1.toList == [42]) := rfl
                  rw [c1] at d1
                  have d2 : (r2.toList != [42]) = !(r2.toList == [42]) := rfl
                  rw [c2] at d2
                · have hN2 : Hid (N = wrap64 (wrap64 (nr + 100) + 100)) := Lib.hid (by rw [hN.out]; unfold hund; rw [if_neg (by simpa using c2), if_neg (by simpa using c1)])
                  clear hN
                  go_wp2
                  refine wp_loop_rounds 3 ?_
                  rw [rounds_succ]
                  go_wp2
                  rw [rounds_succ]
                  go_wp2
                  rw [rounds_succ]
                  go_wp2
                  go_meet
                  case rel => exact Lib.hid (by rw [hN2.out]; exact ((hst.out.al _).setn _).setn _)
                · have hN2 : Hid (N = wrap64 (nr + 100)) := Lib.hid (by rw [hN.out]; unfold hund; rw [if_pos (by simpa using c2), if_neg (by simpa using c1)])
                  clear hN
                  go_wp2
                  refine wp_loop_rounds 3 ?_
                  rw [rounds_succ]
                  go_wp2
                  rw [rounds_succ]
                  go_wp2
                  rw [rounds_succ]
                  go_wp2
                  go_meet
                  case rel => exact Lib.hid (by rw [hN2.out]; exact (hst.out.al _).setn _)
                · have hN2 : Hid (N = wrap64 (nr + 100)) := Lib.hid (by rw [hN.out]; unfold hund; rw [if_neg (by simpa using c2), if_pos (by simpa using c1)])
                  clear hN
                  go_wp2
                  refine wp_loop_rounds 3 ?_
                  rw [rounds_succ]
                  go_wp2
                  rw [rounds_succ]
                  go_wp2
                  rw [rounds_succ]
                  go_wp2
                  go_meet
                  case rel => exact Lib.hid (by rw [hN2.out]; exact (hst.out.al _).setn _)
                · have hN2 : Hid (N = nr) := Lib.hid (by rw [hN.out]; unfold hund; rw [if_pos (by simpa using c2), if_pos (by simpa using c1)])
                  clear hN
                  go_wp2
                  refine wp_loop_rounds 3 ?_
                  rw [rounds_succ]
                  go_wp2
                  rw [rounds_succ]
                  go_wp2
                  rw [rounds_succ]
                  go_wp2
                  go_meet
                  case rel => exact Lib.hid (by rw [hN2.out]; exact hst.out.al _)
              case rest =>
                clear hst
                have z0 := (blk_cell hcut.out.r 0).trans (show _ = some (.string r1) from rfl)
                have z1 := (blk_cell hcut.out.r 1).trans (show _ = some (.string r2) from rfl)
                have z2 := (blk_cell hcut.out.r 2).trans (show _ = some (.slice A2 r3.length c2) from rfl)
                have z3 := hcut.out.c3
                have z4 := hcut.out.c4
                generalize hNg : narrowF r1 r2 r3 = N at *
                have hNg := Lib.hid hNg
                have hgv : Hid (Kd.R k48 48 wc w.heap.size (fun q => B0 ≤ q) (.slice A2 r3.length c2) r3) := Lib.hid (Kd.R_lower (Kd.R_mono (Kd.R_bound (Kd.R_below hv2.out hcut.out.bel)) (fun q hq => by have h1 := hq.2.1; have h2 := hB0.out; omega)) hB.out.size)
                have hSO : Hid (Kd.S k70 70 wc w.heap.size (fun q => True ∧ ¬ B0 ≤ q) u3 out) := Lib.hid (Kd.S_below (Kd.S_below (Kd.S_mono (Kd.S_bound hS.out) (fun q hq => ⟨trivial, by have h1 := hq.2.2.1; have h2 := hB0.out; omega⟩)) hb2.out) hcut.out.bel)
                have hRO : Hid (Kd.R Kd.string 9 wc w.heap.size (fun _ => True) (.slice (some ad) L.length cL) L) := Lib.hid (Kd.R_below (Kd.R_below hRL2.out hb2.out) hcut.out.bel)
                have hBc : Hid (Below w.heap.size w wc) := Lib.hid (below_step (below_step hB.out hb2.out) hcut.out.bel)
                have hne3 : Hid (∀ q, B0 ≤ q → some q ≠ u3.ownBlock) := Lib.hid (fun q hq e => by have h1 := Kd.S_lt hS.out q e.symm; have h2 := hB0.out; omega)
                have hlen2 := Lib.hid (show (out.length + 1) * 72 ≤ 140737488355328 by omega)
                go_wp2_with (at_builtin; refine Kd.S_append k70 (w0 := w) w.heap.size rfl (.tmp 73) (.tmp 75) 41 70 (.agg #[.string ⟨#[]⟩, .string ⟨#[]⟩, .slice none 0 0, .float .f64 0, .int .i64 0]) 72 rfl Tryd.underlying41 zb15 rfl (by decide) zb37 u3 out ⟨⟨r1, r2, r3⟩, x, N⟩ [.string r1, .string r2, .slice A2 r3.length c2, .float .f64 x, .int .i64 N] (fun _ => True) (fun q => B0 ≤ q) rfl rfl (k70_mkM wc w.heap.size _ ⟨⟨r1, r2, r3⟩, x, N⟩ hgv.out) (fun q hq => ⟨trivial, hne3.out q hq⟩) (fun _ _ => trivial) hSO.out hBc.out hBc.out.size hlen2.out ?_; intro v1 w5 hS5 hB5 hg5 hor5; have hS5 := Lib.hid hS5; have hB5 := Lib.hid hB5; have hg5 := Lib.hid hg5; clear hor5)
                go_roundw
                case rel => exact ⟨j + 1, out ++ [⟨⟨r1, r2, r3⟩, x, N⟩], by go_num, Lib.hid ⟨hlt, by rw [List.length_append]; exact Nat.add_le_add_right h2 1, h6.out⟩, Lib.hid (Kd.R_over' hRO.out (Kd.S_typed hSO.out) (by decide) hg5.out), hS5, hB5⟩
                case measure => exact measN_ j _ hlt
      · have hne : (r4 == 0) = false := by simpa using h0
        have hne2 : (r4 != 0) = true := by simpa using h0
        have h6 : Hid (rngs k (L.drop (j + 1)) out = some r) := Lib.hid (by
          have := h5.out
          simp only [if_neg h0] at this
          obtain rfl := Option.some.inj this
          exact h4.out)
        go_wp2_with (go_at_call 40; refine (HP.out _).mono ?_; rintro e w2 ⟨v2, rfl, hv2, hb2⟩; obtain ⟨A2, c2, rfl⟩ := Kd.R_slice hv2; have hb2 := Lib.hid hb2; clear hv2)
        go_roundw
        case rel => exact ⟨j + 1, out, by go_num, Lib.hid ⟨by omega, by omega, h6.out⟩, Lib.hid (Kd.R_below hRL2.out (below_alloc hb2.out _)), Lib.hid (Kd.S_below hS.out (below_alloc hb2.out _)), Lib.hid (below_step hB.out (below_alloc hb2.out _))⟩
        case measure => simp [intOf]; omega
    · obtain rfl : j = L.length := by omega
      have h6 : Hid (out = r) := Lib.hid (by rw [List.drop_of_length_le (Nat.le_refl _)] at h3; exact Option.some.inj h3)
      clear h3
      go_wp2
      go_ret
      refine ⟨_, rfl, ?_, hB.out⟩
      rw [← h6.out]
      exact hS.out
end Go.Proofs.YtghfbhobpodoeaaDoor.O
/- Ofit -/
namespace Go.Proofs.YtghfbhobpodoeaaDoor.O
open Go.Proofs.YtghfbhobpodoeaaDoor.P
open Go.Proofs.YtghfbhobpodoeaaDoor.B
open Go.RowKit Go.Proofs.YtghfbhobpodoeaaDoorW.PrintWords Go.Proofs.YtghfbhobpodoeaaDoorW.PrintLast Go.Proofs.YtghfbhobpodoeaaDoorW.PrintMore
attribute [local go_sem] run_store_float str_leq str_gtr str_geq max2_int min2_int max_two min_two max_three min_three max_four min_four
set_option linter.unusedVariables false
set_option linter.unusedSimpArgs false
def media_FitsP.l0 : Nat → List (S48) → Int → Int → ByteArray → ByteArray → List (S48) → Option (Bool)
  | 0, _, _, _, _, _, _ => none
  | k + 1, x39, x40, x41, x152000, x152001, x152002 => if x41 < x40 then (if 0 ≤ x41 then (if x41 < (x39.length : Int) then ((media_Param.f k x152000 x152001 x152002 ((rd_T48 x39 x41).f0)).bind fun bt154 => (if ((rd_T48 x39 x41).f0).toList = ([113] : List UInt8) then (media_FitsP.l0 k x39 x40 (wrap64 (x41 + 1)) x152000 x152001 x152002) else (if bt154.2 = true then ((media_Small.f bt154.1).bind fun t156 => ((media_Small.f ((rd_T48 x39 x41).f1)).bind fun t157 => (if t156.toList = t157.toList then (media_FitsP.l0 k x39 x40 (wrap64 (x41 + 1)) x152000 x152001 x152002) else (some false)))) else (some false)))) else (none)) else (none)) else (some true)
def media_FitsP.f (k : Nat) (a0_0 : ByteArray) (a0_1 : ByteArray) (l0_2 : List (S48)) (a1_0 : ByteArray) (a1_1 : ByteArray) (l1_2 : List (S48)) : Option (Bool) := media_FitsP.l0 k l0_2 (l0_2.length : Int) 0 a1_0 a1_1 l1_2
def media_FitsP.T11 : Bool × List (List Nat × List Nat) := (true, [([], []), ([0], [0]), ([1], [1]), ([2], [2]), ([3], [3]), ([4, 3], [3, 4]), ([5, 3, 3], [3, 5]), ([6], [6]), ([7, 6, 6], [6, 7]), ([6], [6]), ([9, 6], [6, 9]), ([10, 8, 6], [6, 10]), ([8, 11, 6], [6, 8, 11]), ([6, 12, 3], [3, 6, 12]), ([3, 13], [3, 13])])
def media_FitsP.B11 : List Nat := [0, 1, 3, 7, 15, 31, 63, 127, 255, 127, 639, 2047, 4095, 8191, 16383]
theorem media_FitsP.tab11 : rtab .any (opsOf Tryd.f42 11) = media_FitsP.T11 := by kernel_rfl
theorem media_FitsP.bits11 : waitsOk media_FitsP.T11.2 media_FitsP.B11 = true := by kernel_rfl
def fitB (x y : ByteArray) : Bool := x.toList == [42] || x.toList == y.toList
def media_Fits.f (k : Nat) (a0_0 a0_1 : ByteArray) (l0_2 : List (S48)) (a1_0 a1_1 : ByteArray) (l1_2 : List (S48)) : Option Bool := if fitB a0_0 a1_0 = true then (if fitB a0_1 a1_1 = true then media_FitsP.f k a0_0 a0_1 l0_2 a1_0 a1_1 l1_2 else some false) else some false
set_option maxHeartbeats 8000000 in
set_option maxRecDepth 100000 in
theorem media_Fits.calls (k : Nat) (a0_0 : ByteArray) (a0_1 : ByteArray) (A0_2 : Option Addr) (c0_2 : Nat) (l0_2 : List (S48)) (a1_0 : ByteArray) (a1_1 : ByteArray) (A1_2 : Option Addr) (c1_2 : Nat) (l1_2 : List (S48)) (r : Bool) (w : World) (hr0_2 : Kd.C k48 w A0_2 l0_2.length l0_2) (hc0_2 : l0_2.length ≤ c0_2) (hr1_2 : Kd.C k48 w A1_2 l1_2.length l1_2) (hc1_2 : l1_2.length ≤ c1_2) (h : media_Fits.f k a0_0 a0_1 l0_2 a1_0 a1_1 l1_2 = some r) :
    Calls Tryd.prog 42 #[.agg #[.string a0_0, .string a0_1, .slice A0_2 l0_2.length c0_2], .agg #[.string a1_0, .string a1_1, .slice A1_2 l1_2.length c1_2]] w fun e w' => e = .returned (.bool r) ∧ Below w.heap.size w w' := by
  have hu45 := Tryd.underlying45
  have hu48 := Tryd.underlying48
  have HR0_2 := Aside0.mk hr0_2
  have HC0_2 := Aside0.mk hc0_2
  clear hr0_2 hc0_2
  have HR1_2 := Aside0.mk hr1_2
  have HC1_2 := Aside0.mk hc1_2
  clear hr1_2 hc1_2
  have HB := Aside0.mk (Below.refl w.heap.size w)
  have HF := Aside0.mk h
  clear h
  go_enter Tryd.func42, Tryd.ntmps42
  go_upto_region 1 with (first | ((with_reducible refine gate_dst (N := 2) rfl ?_); refine box_event ?hg (N := 2) ?hd (cs := #[.string a0_0, .string a0_1, .slice A0_2 l0_2.length c0_2]) (t := 45) ?hr ?_; (case hd => rfl); (case hg => rfl); (case hr => first | (go_simp; done) | (go_simp; rfl)); intro gb150 hg w3 hbox hb; have n0_ := Aside0.mk (below_step zb0 hb); have n1_ := Aside0.mk (hbox); have n2_ := Aside0.mk ((by rw [hg]; exact (below_size zb0) : w.heap.size ≤ gb150)); have n3_ := Aside0.mk ((by rw [hg]; exact (below_size zb0) : w.heap.size ≤ gb150)); clear HB; have HB := n0_; have BK150 := n1_; have GW150 := n2_; have GE150 := n3_; clear n0_ n1_ n2_ n3_; clear hb hbox hg) | ((with_reducible refine gate_dst (N := 3) rfl ?_); refine box_event ?hg (N := 3) ?hd (cs := #[.string a1_0, .string a1_1, .slice A1_2 l1_2.length c1_2]) (t := 45) ?hr ?_; (case hd => rfl); (case hg => rfl); (case hr => first | (go_simp; done) | (go_simp; rfl)); intro gb151 hg w4 hbox hb; have n0_ := Aside0.mk (blk_below (g := gb150) (o := .cells #[.string a0_0, .string a0_1, .slice A0_2 l0_2.length c0_2] 45 (0, 0)) zb6 hb); have n1_ := Aside0.mk (below_step zb27 hb); have n2_ := Aside0.mk (hbox); have n3_ := Aside0.mk ((by rw [hg]; exact (below_size zb27) : w.heap.size ≤ gb151)); have n4_ := Aside0.mk ((by rw [hg]; exact (below_size zb27) : w.heap.size ≤ gb151)); have n5_ := Aside0.mk ((by rw [hg]; exact Nat.ne_of_lt (blk_lt (g := gb150) (o := .cells #[.string a0_0, .string a0_1, .slice A0_2 l0_2.length c0_2] 45 (0, 0)) zb6) : gb150 ≠ gb151)); have n6_ := Aside0.mk ((by rw [hg]; exact Nat.ne_of_gt (blk_lt (g := gb150) (o := .cells #[.string a0_0, .string a0_1, .slice A0_2 l0_2.length c0_2] 45 (0, 0)) zb6) : gb151 ≠ gb150)); clear BK150; clear HB; have BK150 := n0_; have HB := n1_; have BK151 := n2_; have GW151 := n3_; have GE151 := n4_; have NB150_151 := n5_; have NB151_150 := n6_; clear n0_ n1_ n2_ n3_ n4_ n5_ n6_; clear hb hbox hg; have hnb5 := NB150_151.out; have hnc5 := NB151_150.out; have hcz6_0 : w4.cell? ⟨gb150, 0, none⟩ = some (.string a0_0) := (blk_cell BK150.out 0).trans rfl; have hcz6_1 : w4.cell? ⟨gb150, 1, none⟩ = some (.string a0_1) := (blk_cell BK150.out 1).trans rfl; have hcz6_2 : w4.cell? ⟨gb150, 2, none⟩ = some (.slice A0_2 l0_2.length c0_2) := (blk_cell BK150.out 2).trans rfl; have hfz6_0 := blk_frozen BK150.out 0; have hfz6_1 := blk_frozen BK150.out 1; have hfz6_2 := blk_frozen BK150.out 2))
  have x0 := (blk_cell BK150.out 0).trans (show _ = some (.string a0_0) from rfl)
  have x1 := (blk_cell BK150.out 1).trans (show _ = some (.string a0_1) from rfl)
  have x2 := (blk_cell BK151.out 0).trans (show _ = some (.string a1_0) from rfl)
  have x3 := (blk_cell BK151.out 1).trans (show _ = some (.string a1_1) from rfl)
  go_upto_block 0 with fail
  (try simp only [Act.put, List.setIfInBounds_toArray, List.set_cons_zero, List.set_cons_succ])
  clear x0 x1 x2 x3
  go_cut [] (fun wc => Aside0 ((media_FitsP.l0 k l0_2 (l0_2.length : Int) 0 a1_0 a1_1 l1_2) = some r) ∧ Aside0 (wc.heap[gb150]? = some (.cells #[.string a0_0, .string a0_1, (.slice A0_2 l0_2.length c0_2)] 45 (0, 0))) ∧ Aside0 (wc.heap[gb151]? = some (.cells #[.string a1_0, .string a1_1, (.slice A1_2 l1_2.length c1_2)] 45 (0, 0))) ∧ Aside0 (Below w.heap.size w wc))
  case first =>
    have hFr := HF.out
    clear HF
    unfold media_Fits.f at hFr
    by_cases hA : fitB a0_0 a1_0 = true
    · rw [if_pos hA] at hFr
      by_cases hB : fitB a0_1 a1_1 = true
      · rw [if_pos hB] at hFr
        have HF := Aside0.mk hFr
        clear hFr
        unfold fitB at hA hB
        cases c1 : (a0_0.toList == [42]) <;> cases c2 : (a0_1.toList == [42]) <;> simp only [c1, c2, Bool.true_or, Bool.false_or] at hA hB
        all_goals
          have d1 : (a0_0.toList != [42]) = !(a0_0.toList == [42]) := rfl
          have d2 : (a0_1.toList != [42]) = !(a0_1.toList == [42]) := rfl
          rw [c1] at d1
          rw [c2] at d2
          have d3 : (a0_0.toList != a1_0.toList) = !(a0_0.toList == a1_0.toList) := rfl
          have d4 : (a0_1.toList != a1_1.toList) = !(a0_1.toList == a1_1.toList) := rfl
          try rw [hA] at d3
          try rw [hB] at d4
          go_wp2
          refine wp_loop_rounds 3 ?_
          rw [rounds_succ]
          go_wp2
          rw [rounds_succ]
          go_wp2
          rw [rounds_succ]
          go_wp2
          go_meet
          case rel => exact ⟨HF, ⟨by repeat (first | exact BK150.out | refine blk_alloc ?_ _)⟩, ⟨by repeat (first | exact BK151.out | refine blk_alloc ?_ _)⟩, ⟨by repeat (first | exact HB.out | apply below_alloc)⟩⟩
      · rw [if_neg hB] at hFr
        obtain rfl := Option.some.inj hFr
        clear hFr
        unfold fitB at hA hB
        cases c1 : (a0_0.toList == [42]) <;> cases c2 : (a0_1.toList == [42]) <;> simp only [c1, c2, Bool.true_or, Bool.false_or, Bool.not_eq_true] at hA hB
        all_goals try (exact absurd trivial hB)
        all_goals try (exact absurd hB (by decide))
        all_goals
          have d1 : (a0_0.toList != [42]) = !(a0_0.toList == [42]) := rfl
          have d2 : (a0_1.toList != [42]) = !(a0_1.toList == [42]) := rfl
          rw [c1] at d1
          rw [c2] at d2
          have d3 : (a0_0.toList != a1_0.toList) = !(a0_0.toList == a1_0.toList) := rfl
          have d4 : (a0_1.toList != a1_1.toList) = !(a0_1.toList == a1_1.toList) := rfl
          try rw [hA] at d3
          try rw [hB] at d4
          go_wp2
          refine wp_loop_rounds 3 ?_
          rw [rounds_succ]
          go_wp2
          rw [rounds_succ]
          go_wp2
          go_ret
          exact ⟨rfl, by repeat (first | exact HB.out | apply below_alloc)⟩
    · rw [if_neg hA] at hFr
      obtain rfl := Option.some.inj hFr
      clear hFr
      unfold fitB at hA
      cases c1 : (a0_0.toList == [42]) <;> simp only [c1, Bool.true_or, Bool.false_or, Bool.not_eq_true] at hA
      all_goals try (exact absurd trivial hA)
      all_goals try (exact absurd hA (by decide))
      all_goals
          have d1 : (a0_0.toList != [42]) = !(a0_0.toList == [42]) := rfl
          rw [c1] at d1
          have d3 : (a0_0.toList != a1_0.toList) = !(a0_0.toList == a1_0.toList) := rfl
          try rw [hA] at d3
          go_wp2
          refine wp_loop_rounds 3 ?_
          rw [rounds_succ]
          go_wp2
          go_ret
          exact ⟨rfl, by repeat (first | exact HB.out | apply below_alloc)⟩
  case rest =>
  obtain ⟨H', BK150, BK151, HB⟩ := hcut
  have y0 := (blk_cell BK150.out 2).trans (show _ = some (.slice A0_2 l0_2.length c0_2) from rfl)
  go_wp2
  clear y0
  first | go_loopg [41] k (fun kq v41 w' => ∃ (x41_1 : Int), v41 = .int .i64 x41_1 ∧ Aside0 (media_FitsP.l0 kq l0_2 (l0_2.length : Int) x41_1 a1_0 a1_1 l1_2 = some r) ∧ Aside0 (kq ≤ k) ∧ Aside0 (w'.heap[gb150]? = some (.cells #[.string a0_0, .string a0_1, (.slice A0_2 l0_2.length c0_2)] 45 (0, 0))) ∧ Aside0 (w'.heap[gb151]? = some (.cells #[.string a1_0, .string a1_1, (.slice A1_2 l1_2.length c1_2)] 45 (0, 0))) ∧ Aside0 (Below w.heap.size w w')) | (go_simp; go_loopg [41] k (fun kq v41 w' => ∃ (x41_1 : Int), v41 = .int .i64 x41_1 ∧ Aside0 (media_FitsP.l0 kq l0_2 (l0_2.length : Int) x41_1 a1_0 a1_1 l1_2 = some r) ∧ Aside0 (kq ≤ k) ∧ Aside0 (w'.heap[gb150]? = some (.cells #[.string a0_0, .string a0_1, (.slice A0_2 l0_2.length c0_2)] 45 (0, 0))) ∧ Aside0 (w'.heap[gb151]? = some (.cells #[.string a1_0, .string a1_1, (.slice A1_2 l1_2.length c1_2)] 45 (0, 0))) ∧ Aside0 (Below w.heap.size w w')))
  case atStart => exact ⟨(0), zb18, H', ⟨Nat.le_refl _⟩, ⟨by (with_reducible repeat (first | refine blk_drewN ?_ _ | refine blk_drew ?_ | refine blk_alloc ?_ _)); exact BK150.out⟩, ⟨by (with_reducible repeat (first | refine blk_drewN ?_ _ | refine blk_drew ?_ | refine blk_alloc ?_ _)); exact BK151.out⟩, ⟨by repeat (first | (with_reducible first | exact HB.out | apply below_alloc | apply pw_below_drewN | apply below_drew1 | refine below_set ?_ GE150.out | refine below_set ?_ GE151.out) | exact HB.out)⟩⟩
  case round =>
    clear H'
    try clear c1
    try clear p2
    try clear c4
    try clear c5
    try clear hcz6_0
    try clear hcz6_1
    try clear hcz6_2
    try clear hfz6_0
    try clear hfz6_1
    try clear hfz6_2
    obtain ⟨x41_1, rfl, HA, HK1, BK150, BK151, HB⟩ := hrel
    cases gk with
    | zero => exact absurd HA.out (by simp [media_FitsP.l0])
    | succ k1 =>
      have H := HA.out
      clear HA
      simp only [media_FitsP.l0] at H
      by_cases c7 : x41_1 < (l0_2.length : Int)
      · rw [if_pos c7] at H
        have c7b0 : decide (x41_1 < (l0_2.length : Int)) = true := decide_eq_true c7
        clear c7
        by_cases c8 : 0 ≤ x41_1
        · rw [if_pos c8] at H
          have c8b0 : decide (0 ≤ x41_1) = true := decide_eq_true c8
          clear c8
          by_cases c9 : x41_1 < (l0_2.length : Int)
          · rw [if_pos c9] at H
            have c9b0 : decide (x41_1 < (l0_2.length : Int)) = true := decide_eq_true c9
            clear c9
            replace H := Option.bind_eq_some_iff.mp H
            obtain ⟨⟨t154, t155⟩, A100, H⟩ := H
            replace H : (if ((rd_T48 l0_2 x41_1).f0).toList = ([113] : List UInt8) then (media_FitsP.l0 k1 l0_2 (l0_2.length : Int) (wrap64 (x41_1 + 1)) a1_0 a1_1 l1_2) else (if t155 = true then ((media_Small.f t154).bind fun t156 => ((media_Small.f ((rd_T48 l0_2 x41_1).f1)).bind fun t157 => (if t156.toList = t157.toList then (media_FitsP.l0 k1 l0_2 (l0_2.length : Int) (wrap64 (x41_1 + 1)) a1_0 a1_1 l1_2) else (some false)))) else (some false))) = some r := H
            have A10 := Aside0.mk A100
            clear A100
            by_cases c11 : ((rd_T48 l0_2 x41_1).f0).toList = ([113] : List UInt8)
            · rw [if_pos c11] at H
              have c11b0 : (((rd_T48 l0_2 x41_1).f0).toList == ([113] : List UInt8)) = true := beq_iff_eq.mpr c11
              have c11b1 : (((rd_T48 l0_2 x41_1).f0).toList != ([113] : List UInt8)) = false := bne_eq_false_iff_eq.mpr c11
              clear c11
              have H' := Aside0.mk H
              clear H
              have p152 : 0 ≤ (x41_1 : Int) := of_decide_eq_true zb11
              have q152 : x41_1 < (l0_2.length : Int) := of_decide_eq_true zb11
              obtain ⟨ad152, e152, hx152_0, hx152_1⟩ := at_T48 HR0_2.out x41_1 p152 q152
              cases e152
              replace hx152_0 := (HB.out.cell (World.block_lt_of_cell? w _ hx152_0)).trans hx152_0
              replace hx152_1 := (HB.out.cell (World.block_lt_of_cell? w _ hx152_1)).trans hx152_1
              replace p152 := eq_true p152
              replace q152 := eq_true q152
              try go_wp2_with (first | ((with_reducible refine gate_dst (N := 8) rfl ?_); refine box_event ?hg (N := 8) ?hd (cs := #[.string (⟨#[]⟩ : ByteArray), .string (⟨#[]⟩ : ByteArray)]) (t := 48) ?hr ?_; (case hd => rfl); (case hg => rfl); (case hr => first | (go_simp; done) | (go_simp; rfl)); intro gb153 hg w12 hbox hb; have n0_ := Aside0.mk (blk_below (g := gb150) (o := .cells #[.string a0_0, .string a0_1, .slice (some ad152) l0_2.length c0_2] 45 (0, 0)) zb6 hb); have n1_ := Aside0.mk (blk_below (g := gb151) (o := .cells #[.string a1_0, .string a1_1, .slice A1_2 l1_2.length c1_2] 45 (0, 0)) zb8 hb); have n2_ := Aside0.mk (below_step zb5 hb); have n3_ := Aside0.mk (hbox); have n4_ := Aside0.mk ((by rw [hg]; exact (below_size zb5) : w.heap.size ≤ gb153)); have n5_ := Aside0.mk ((by rw [hg]; exact (below_size zb5) : w.heap.size ≤ gb153)); have n6_ := Aside0.mk ((by rw [hg]; exact Nat.ne_of_lt (blk_lt (g := gb150) (o := .cells #[.string a0_0, .string a0_1, .slice (some ad152) l0_2.length c0_2] 45 (0, 0)) zb6) : gb150 ≠ gb153)); have n7_ := Aside0.mk ((by rw [hg]; exact Nat.ne_of_gt (blk_lt (g := gb150) (o := .cells #[.string a0_0, .string a0_1, .slice (some ad152) l0_2.length c0_2] 45 (0, 0)) zb6) : gb153 ≠ gb150)); have n8_ := Aside0.mk ((by rw [hg]; exact Nat.ne_of_lt (blk_lt (g := gb151) (o := .cells #[.string a1_0, .string a1_1, .slice A1_2 l1_2.length c1_2] 45 (0, 0)) zb8) : gb151 ≠ gb153)); have n9_ := Aside0.mk ((by rw [hg]; exact Nat.ne_of_gt (blk_lt (g := gb151) (o := .cells #[.string a1_0, .string a1_1, .slice A1_2 l1_2.length c1_2] 45 (0, 0)) zb8) : gb153 ≠ gb151)); clear BK150; clear BK151; clear HB; have BK150 := n0_; have BK151 := n1_; have HB := n2_; have BK153 := n3_; have GW153 := n4_; have GE153 := n5_; have NB150_153 := n6_; have NB153_150 := n7_; have NB151_153 := n8_; have NB153_151 := n9_; clear n0_ n1_ n2_ n3_ n4_ n5_ n6_ n7_ n8_ n9_; clear hb hbox hg; have hnb13 := NB153_150.out; have hnc13 := NB150_153.out; have hnb14 := NB153_151.out; have hnc14 := NB151_153.out; have hcz15_0 : w12.cell? ⟨gb153, 0, none⟩ = some (.string (⟨#[]⟩ : ByteArray)) := (blk_cell BK153.out 0).trans rfl; have hcz15_1 : w12.cell? ⟨gb153, 1, none⟩ = some (.string (⟨#[]⟩ : ByteArray)) := (blk_cell BK153.out 1).trans rfl; have hfz15_0 := blk_frozen BK153.out 0; have hfz15_1 := blk_frozen BK153.out 1; have hnb16 := NB151_150.out; have hnc16 := NB150_151.out; have hcz17_0 : w12.cell? ⟨gb151, 0, none⟩ = some (.string a1_0) := (blk_cell BK151.out 0).trans rfl; have hcz17_1 : w12.cell? ⟨gb151, 1, none⟩ = some (.string a1_1) := (blk_cell BK151.out 1).trans rfl; have hcz17_2 : w12.cell? ⟨gb151, 2, none⟩ = some (.slice A1_2 l1_2.length c1_2) := (blk_cell BK151.out 2).trans rfl; have hfz17_0 := blk_frozen BK151.out 0; have hfz17_1 := blk_frozen BK151.out 1; have hfz17_2 := blk_frozen BK151.out 2) | ((with_reducible refine gate_callee (f := 41) rfl ?_); refine goesL_ (some 49) rfl rfl Tryd.func41 zb15 rfl #[.agg #[.string a1_0, .string a1_1, .slice A1_2 l1_2.length c1_2], .string ((rd_T48 l0_2 x41_1).f0)] rfl zb1 ?_; (with_reducible refine (media_Param.calls k1 a1_0 a1_1 _ _ l1_2 ((rd_T48 l0_2 x41_1).f0) t154 t155 _ ?side1 ?side2 A10.out).mono ?_); (case side1 => exact Kd.C_below HR1_2.out zb4); (case side2 => exact HC1_2.out); rintro e w18 ⟨rfl, hb⟩; refine ⟨_, rfl, ?_⟩; have n0_ := Aside0.mk (blk_below (g := gb150) (o := .cells #[.string a0_0, .string a0_1, .slice (some ad152) l0_2.length c0_2] 45 (0, 0)) zb20 hb); have n1_ := Aside0.mk (blk_below (g := gb151) (o := .cells #[.string a1_0, .string a1_1, .slice A1_2 l1_2.length c1_2] 45 (0, 0)) zb19 hb); have n2_ := Aside0.mk (blk_below (g := gb153) (o := .cells #[.string ((rd_T48 l0_2 x41_1).f0), .string ((rd_T48 l0_2 x41_1).f1)] 48 (0, 0)) zb14 hb); have n3_ := Aside0.mk (below_step zb4 hb); clear BK150; clear BK151; clear BK153; clear HB; have BK150 := n0_; have BK151 := n1_; have BK153 := n2_; have HB := n3_; clear n0_ n1_ n2_ n3_; (try clear hb); (try clear hb2); (try clear hk); (try clear hi)))
              have n0_ := Aside0.mk (blk_drew BK150.out)
              have n1_ := Aside0.mk (blk_drew BK151.out)
              have n2_ := Aside0.mk (blk_drew BK153.out)
              have n3_ := Aside0.mk (below_drew1 HB.out)
              clear BK150
              clear BK151
              clear BK153
              clear HB
              have BK150 := n0_
              have BK151 := n1_
              have BK153 := n2_
              have HB := n3_
              clear n0_ n1_ n2_ n3_
              refine start_ (n := 15) (S := fun w' => w'.cell? ⟨gb153, 0, none⟩ = some (.string ((rd_T48 l0_2 x41_1).f0)) ∧ w'.cell? ⟨gb153, 1, none⟩ = some (.string ((rd_T48 l0_2 x41_1).f1))) (ds := []) #[false, false, false, false, false, false, false, false, false, false, false, false, false, false, false] zb15 rfl rfl ⟨(blk_cell BK153.out 0).trans rfl, (blk_cell BK153.out 1).trans rfl⟩ (fun hHeld => ?_); refine with_tabW media_FitsP.tab11 media_FitsP.bits11 (fun HT_ HW_ => ?_)
              generalize w18.drew = w19 at BK150 BK151 BK153 HB hHeld ⊢
              refine pure_ (i := 0) (N := some 52) (v := ?_) (a' := ?_) #[true, false, false, false, false, false, false, false, false, false, false, false, false, false, false] rfl rfl (any_of HT_.out zb15) (fun _ _ _ h => h) (Or.inl ⟨by rfl, ?_⟩) ?_ ?_
              rotate_left
              · intro w'
                go_simp
                first | with_reducible rfl | (rw [if_neg zb3])
              rotate_left
              · simp only [Act.put, List.setIfInBounds_toArray, List.set_cons_zero, List.set_cons_succ, i64_w, i32_w]
                rfl
              refine take_ (i := 1) (N := some 53) (v := ?_) (a' := ?_) #[true, true, false, false, false, false, false, false, false, false, false, false, false, false, false] rfl rfl (take_ofW HT_.out HW_.out zb15) (fun _ _ _ h => h) (Or.inl ⟨by rfl, ?_⟩) hHeld ?_ ?_
              rotate_left
              · rintro w' ⟨s0, s1⟩
                go_simp
                first | with_reducible rfl | (rw [if_neg zb3])
              rotate_left
              · simp only [Act.put, List.setIfInBounds_toArray, List.set_cons_zero, List.set_cons_succ, i64_w, i32_w]
                rfl
              refine pure_ (i := 2) (N := some 54) (v := ?_) (a' := ?_) #[true, true, true, false, false, false, false, false, false, false, false, false, false, false, false] rfl rfl (any_of HT_.out zb15) (fun _ _ _ h => h) (Or.inl ⟨by rfl, ?_⟩) ?_ ?_
              rotate_left
              · intro w'
                go_simp
                first | with_reducible rfl | (rw [if_neg zb3])
              rotate_left
              · simp only [Act.put, List.setIfInBounds_toArray, List.set_cons_zero, List.set_cons_succ, i64_w, i32_w]
                rfl
              refine pure_ (i := 3) (N := some 55) (v := ?_) (a' := ?_) #[true, true, true, true, false, false, false, false, false, false, false, false, false, false, false] rfl rfl (any_of HT_.out zb15) (fun _ _ _ h => h) (Or.inl ⟨by rfl, ?_⟩) ?_ ?_
              rotate_left
              · intro w'
                go_simp
                first | with_reducible rfl | (rw [if_neg zb3])
              rotate_left
              · simp only [Act.put, List.setIfInBounds_toArray, List.set_cons_zero, List.set_cons_succ, i64_w, i32_w]
                rfl
              refine pure_ (i := 4) (N := some 56) (v := undef) (a' := ?_) #[true, true, true, true, true, false, false, false, false, false, false, false, false, false, false] rfl rfl (any_of HT_.out zb15) (fun _ _ _ h => h) (Or.inr ⟨by rfl, rfl⟩) ?_ ?_
              rotate_left
              · simp only [Act.put, List.setIfInBounds_toArray, List.set_cons_zero, List.set_cons_succ, i64_w, i32_w]
                rfl
              refine pure_ (i := 5) (N := some 57) (v := undef) (a' := ?_) #[true, true, true, true, true, true, false, false, false, false, false, false, false, false, false] rfl rfl (any_of HT_.out zb15) (fun _ _ _ h => h) (Or.inr ⟨by rfl, rfl⟩) ?_ ?_
              rotate_left
              · simp only [Act.put, List.setIfInBounds_toArray, List.set_cons_zero, List.set_cons_succ, i64_w, i32_w]
                rfl
              refine pure_ (i := 6) (N := some 58) (v := undef) (a' := ?_) #[true, true, true, true, true, true, true, false, false, false, false, false, false, false, false] rfl rfl (any_of HT_.out zb15) (fun _ _ _ h => h) (Or.inr ⟨by rfl, rfl⟩) ?_ ?_
              rotate_left
              · simp only [Act.put, List.setIfInBounds_toArray, List.set_cons_zero, List.set_cons_succ, i64_w, i32_w]
                rfl
              refine pure_ (i := 7) (N := some 59) (v := undef) (a' := ?_) #[true, true, true, true, true, true, true, true, false, false, false, false, false, false, false] rfl rfl (any_of HT_.out zb15) (fun _ _ _ h => h) (Or.inr ⟨by rfl, rfl⟩) ?_ ?_
              rotate_left
              · simp only [Act.put, List.setIfInBounds_toArray, List.set_cons_zero, List.set_cons_succ, i64_w, i32_w]
                rfl
              refine pure_ (i := 8) (N := some 60) (v := undef) (a' := ?_) #[true, true, true, true, true, true, true, true, true, false, false, false, false, false, false] rfl rfl (any_of HT_.out zb15) (fun _ _ _ h => h) (Or.inr ⟨by rfl, rfl⟩) ?_ ?_
              rotate_left
              · simp only [Act.put, List.setIfInBounds_toArray, List.set_cons_zero, List.set_cons_succ, i64_w, i32_w]
                rfl
              refine pure_ (i := 9) (N := some 61) (v := undef) (a' := ?_) #[true, true, true, true, true, true, true, true, true, true, false, false, false, false, false] rfl rfl (any_of HT_.out zb15) (fun _ _ _ h => h) (Or.inr ⟨by rfl, rfl⟩) ?_ ?_
              rotate_left
              · simp only [Act.put, List.setIfInBounds_toArray, List.set_cons_zero, List.set_cons_succ, i64_w, i32_w]
                rfl
              refine pure_ (i := 10) (N := some 62) (v := undef) (a' := ?_) #[true, true, true, true, true, true, true, true, true, true, true, false, false, false, false] rfl rfl (any_of HT_.out zb15) (fun _ _ _ h => h) (Or.inr ⟨by rfl, rfl⟩) ?_ ?_
              rotate_left
              · simp only [Act.put, List.setIfInBounds_toArray, List.set_cons_zero, List.set_cons_succ, i64_w, i32_w]
                rfl
              refine pure_ (i := 11) (N := some 63) (v := undef) (a' := ?_) #[true, true, true, true, true, true, true, true, true, true, true, true, false, false, false] rfl rfl (any_of HT_.out zb15) (fun _ _ _ h => h) (Or.inr ⟨by rfl, rfl⟩) ?_ ?_
              rotate_left
              · simp only [Act.put, List.setIfInBounds_toArray, List.set_cons_zero, List.set_cons_succ, i64_w, i32_w]
                rfl
              refine pure_ (i := 12) (N := some 64) (v := undef) (a' := ?_) #[true, true, true, true, true, true, true, true, true, true, true, true, true, false, false] rfl rfl (any_of HT_.out zb15) (fun _ _ _ h => h) (Or.inr ⟨by rfl, rfl⟩) ?_ ?_
              rotate_left
              · simp only [Act.put, List.setIfInBounds_toArray, List.set_cons_zero, List.set_cons_succ, i64_w, i32_w]
                rfl
              refine pure_ (i := 13) (N := some 65) (v := undef) (a' := ?_) #[true, true, true, true, true, true, true, true, true, true, true, true, true, true, false] rfl rfl (any_of HT_.out zb15) (fun _ _ _ h => h) (Or.inr ⟨by rfl, rfl⟩) ?_ ?_
              rotate_left
              · simp only [Act.put, List.setIfInBounds_toArray, List.set_cons_zero, List.set_cons_succ, i64_w, i32_w]
                rfl
              refine pure_ (i := 14) (N := some 66) (v := ?_) (a' := ?_) #[true, true, true, true, true, true, true, true, true, true, true, true, true, true, true] rfl rfl (any_of HT_.out zb15) (fun _ _ _ h => h) (Or.inl ⟨by rfl, ?_⟩) ?_ ?_
              rotate_left
              · intro w'
                go_simp
                first | with_reducible rfl | (rw [if_neg zb3])
              rotate_left
              · simp only [Act.put, List.setIfInBounds_toArray, List.set_cons_zero, List.set_cons_succ, i64_w, i32_w]
                rfl
              refine done_ (done_of HT_.out zb15) ?_
              try go_wp2
              go_roundg k1
              case measure => have := HK1.out; omega
              case rel => exact ⟨(wrap64 (x41_1 + 1)), zb18, H', ⟨by have := HK1.out; omega⟩, ⟨by (with_reducible repeat (first | refine blk_drewN ?_ _ | refine blk_drew ?_ | refine blk_alloc ?_ _)); exact BK150.out⟩, ⟨by (with_reducible repeat (first | refine blk_drewN ?_ _ | refine blk_drew ?_ | refine blk_alloc ?_ _)); exact BK151.out⟩, ⟨by repeat (first | (with_reducible first | exact HB.out | apply below_alloc | apply pw_below_drewN | apply below_drew1 | refine below_set ?_ GE150.out | refine below_set ?_ GE151.out | refine below_set ?_ GE153.out) | exact HB.out)⟩⟩
            · rw [if_neg c11] at H
              have c11b0 : (((rd_T48 l0_2 x41_1).f0).toList == ([113] : List UInt8)) = false := beq_eq_false_iff_ne.mpr c11
              have c11b1 : (((rd_T48 l0_2 x41_1).f0).toList != ([113] : List UInt8)) = true := bne_iff_ne.mpr c11
              by_cases c20 : t155 = true
              · subst c20
                replace H : ((media_Small.f t154).bind fun t156 => ((media_Small.f ((rd_T48 l0_2 x41_1).f1)).bind fun t157 => (if t156.toList = t157.toList then (media_FitsP.l0 k1 l0_2 (l0_2.length : Int) (wrap64 (x41_1 + 1)) a1_0 a1_1 l1_2) else (some false)))) = some r := by rw [if_pos rfl] at H; exact H
                replace H := Option.bind_eq_some_iff.mp H
                obtain ⟨t156, A210, H⟩ := H
                replace H : ((media_Small.f ((rd_T48 l0_2 x41_1).f1)).bind fun t157 => (if t156.toList = t157.toList then (media_FitsP.l0 k1 l0_2 (l0_2.length : Int) (wrap64 (x41_1 + 1)) a1_0 a1_1 l1_2) else (some false))) = some r := H
                have A21 := Aside0.mk A210
                clear A210
                replace H := Option.bind_eq_some_iff.mp H
                obtain ⟨t157, A220, H⟩ := H
                replace H : (if t156.toList = t157.toList then (media_FitsP.l0 k1 l0_2 (l0_2.length : Int) (wrap64 (x41_1 + 1)) a1_0 a1_1 l1_2) else (some false)) = some r := H
                have A22 := Aside0.mk A220
                clear A220
                by_cases c23 : t156.toList = t157.toList
                · rw [if_pos c23] at H
                  have c23b0 : (t156.toList == t157.toList) = true := beq_iff_eq.mpr c23
                  have c23b1 : (t156.toList != t157.toList) = false := bne_eq_false_iff_eq.mpr c23
                  clear c23
                  have H' := Aside0.mk H
                  clear H
                  have p152 : 0 ≤ (x41_1 : Int) := of_decide_eq_true zb11
                  have q152 : x41_1 < (l0_2.length : Int) := of_decide_eq_true zb11
                  obtain ⟨ad152, e152, hx152_0, hx152_1⟩ := at_T48 HR0_2.out x41_1 p152 q152
                  cases e152
                  replace hx152_0 := (HB.out.cell (World.block_lt_of_cell? w _ hx152_0)).trans hx152_0
                  replace hx152_1 := (HB.out.cell (World.block_lt_of_cell? w _ hx152_1)).trans hx152_1
                  replace p152 := eq_true p152
                  replace q152 := eq_true q152
                  try go_wp2_with (first | ((with_reducible refine gate_dst (N := 8) rfl ?_); refine box_event ?hg (N := 8) ?hd (cs := #[.string (⟨#[]⟩ : ByteArray), .string (⟨#[]⟩ : ByteArray)]) (t := 48) ?hr ?_; (case hd => rfl); (case hg => rfl); (case hr => first | (go_simp; done) | (go_simp; rfl)); intro gb153 hg w24 hbox hb; have n0_ := Aside0.mk (blk_below (g := gb150) (o := .cells #[.string a0_0, .string a0_1, .slice (some ad152) l0_2.length c0_2] 45 (0, 0)) zb6 hb); have n1_ := Aside0.mk (blk_below (g := gb151) (o := .cells #[.string a1_0, .string a1_1, .slice A1_2 l1_2.length c1_2] 45 (0, 0)) zb8 hb); have n2_ := Aside0.mk (below_step zb5 hb); have n3_ := Aside0.mk (hbox); have n4_ := Aside0.mk ((by rw [hg]; exact (below_size zb5) : w.heap.size ≤ gb153)); have n5_ := Aside0.mk ((by rw [hg]; exact (below_size zb5) : w.heap.size ≤ gb153)); have n6_ := Aside0.mk ((by rw [hg]; exact Nat.ne_of_lt (blk_lt (g := gb150) (o := .cells #[.string a0_0, .string a0_1, .slice (some ad152) l0_2.length c0_2] 45 (0, 0)) zb6) : gb150 ≠ gb153)); have n7_ := Aside0.mk ((by rw [hg]; exact Nat.ne_of_gt (blk_lt (g := gb150) (o := .cells #[.string a0_0, .string a0_1, .slice (some ad152) l0_2.length c0_2] 45 (0, 0)) zb6) : gb153 ≠ gb150)); have n8_ := Aside0.mk ((by rw [hg]; exact Nat.ne_of_lt (blk_lt (g := gb151) (o := .cells #[.string a1_0, .string a1_1, .slice A1_2 l1_2.length c1_2] 45 (0, 0)) zb8) : gb151 ≠ gb153)); have n9_ := Aside0.mk ((by rw [hg]; exact Nat.ne_of_gt (blk_lt (g := gb151) (o := .cells #[.string a1_0, .string a1_1, .slice A1_2 l1_2.length c1_2] 45 (0, 0)) zb8) : gb153 ≠ gb151)); clear BK150; clear BK151; clear HB; have BK150 := n0_; have BK151 := n1_; have HB := n2_; have BK153 := n3_; have GW153 := n4_; have GE153 := n5_; have NB150_153 := n6_; have NB153_150 := n7_; have NB151_153 := n8_; have NB153_151 := n9_; clear n0_ n1_ n2_ n3_ n4_ n5_ n6_ n7_ n8_ n9_; clear hb hbox hg; have hnb25 := NB153_150.out; have hnc25 := NB150_153.out; have hnb26 := NB153_151.out; have hnc26 := NB151_153.out; have hcz27_0 : w24.cell? ⟨gb153, 0, none⟩ = some (.string (⟨#[]⟩ : ByteArray)) := (blk_cell BK153.out 0).trans rfl; have hcz27_1 : w24.cell? ⟨gb153, 1, none⟩ = some (.string (⟨#[]⟩ : ByteArray)) := (blk_cell BK153.out 1).trans rfl; have hfz27_0 := blk_frozen BK153.out 0; have hfz27_1 := blk_frozen BK153.out 1; have hnb28 := NB151_150.out; have hnc28 := NB150_151.out; have hcz29_0 : w24.cell? ⟨gb151, 0, none⟩ = some (.string a1_0) := (blk_cell BK151.out 0).trans rfl; have hcz29_1 : w24.cell? ⟨gb151, 1, none⟩ = some (.string a1_1) := (blk_cell BK151.out 1).trans rfl; have hcz29_2 : w24.cell? ⟨gb151, 2, none⟩ = some (.slice A1_2 l1_2.length c1_2) := (blk_cell BK151.out 2).trans rfl; have hfz29_0 := blk_frozen BK151.out 0; have hfz29_1 := blk_frozen BK151.out 1; have hfz29_2 := blk_frozen BK151.out 2) | ((with_reducible refine gate_callee (f := 41) rfl ?_); refine goesL_ (some 49) rfl rfl Tryd.func41 zb15 rfl #[.agg #[.string a1_0, .string a1_1, .slice A1_2 l1_2.length c1_2], .string ((rd_T48 l0_2 x41_1).f0)] rfl zb1 ?_; (with_reducible refine (media_Param.calls k1 a1_0 a1_1 _ _ l1_2 ((rd_T48 l0_2 x41_1).f0) t154 true _ ?side1 ?side2 A10.out).mono ?_); (case side1 => exact Kd.C_below HR1_2.out zb4); (case side2 => exact HC1_2.out); rintro e w30 ⟨rfl, hb⟩; refine ⟨_, rfl, ?_⟩; have n0_ := Aside0.mk (blk_below (g := gb150) (o := .cells #[.string a0_0, .string a0_1, .slice (some ad152) l0_2.length c0_2] 45 (0, 0)) zb20 hb); have n1_ := Aside0.mk (blk_below (g := gb151) (o := .cells #[.string a1_0, .string a1_1, .slice A1_2 l1_2.length c1_2] 45 (0, 0)) zb19 hb); have n2_ := Aside0.mk (blk_below (g := gb153) (o := .cells #[.string ((rd_T48 l0_2 x41_1).f0), .string ((rd_T48 l0_2 x41_1).f1)] 48 (0, 0)) zb14 hb); have n3_ := Aside0.mk (below_step zb4 hb); clear BK150; clear BK151; clear BK153; clear HB; have BK150 := n0_; have BK151 := n1_; have BK153 := n2_; have HB := n3_; clear n0_ n1_ n2_ n3_; (try clear hb); (try clear hb2); (try clear hk); (try clear hi)))
                  have n0_ := Aside0.mk (blk_drew BK150.out)
                  have n1_ := Aside0.mk (blk_drew BK151.out)
                  have n2_ := Aside0.mk (blk_drew BK153.out)
                  have n3_ := Aside0.mk (below_drew1 HB.out)
                  clear BK150
                  clear BK151
                  clear BK153
                  clear HB
                  have BK150 := n0_
                  have BK151 := n1_
                  have BK153 := n2_
                  have HB := n3_
                  clear n0_ n1_ n2_ n3_
                  refine start_ (n := 15) (S := fun w' => w'.cell? ⟨gb153, 0, none⟩ = some (.string ((rd_T48 l0_2 x41_1).f0)) ∧ w'.cell? ⟨gb153, 1, none⟩ = some (.string ((rd_T48 l0_2 x41_1).f1))) (ds := []) #[false, false, false, false, false, false, false, false, false, false, false, false, false, false, false] zb15 rfl rfl ⟨(blk_cell BK153.out 0).trans rfl, (blk_cell BK153.out 1).trans rfl⟩ (fun hHeld => ?_); refine with_tabW media_FitsP.tab11 media_FitsP.bits11 (fun HT_ HW_ => ?_)
                  generalize w30.drew = w31 at BK150 BK151 BK153 HB hHeld ⊢
                  refine pure_ (i := 0) (N := some 52) (v := ?_) (a' := ?_) #[true, false, false, false, false, false, false, false, false, false, false, false, false, false, false] rfl rfl (any_of HT_.out zb15) (fun _ _ _ h => h) (Or.inl ⟨by rfl, ?_⟩) ?_ ?_
                  rotate_left
                  · intro w'
                    go_simp
                    first | with_reducible rfl | (rw [if_neg zb3])
                  rotate_left
                  · simp only [Act.put, List.setIfInBounds_toArray, List.set_cons_zero, List.set_cons_succ, i64_w, i32_w]
                    rfl
                  refine take_ (i := 1) (N := some 53) (v := ?_) (a' := ?_) #[true, true, false, false, false, false, false, false, false, false, false, false, false, false, false] rfl rfl (take_ofW HT_.out HW_.out zb15) (fun _ _ _ h => h) (Or.inl ⟨by rfl, ?_⟩) hHeld ?_ ?_
                  rotate_left
                  · rintro w' ⟨s0, s1⟩
                    go_simp
                    first | with_reducible rfl | (rw [if_neg zb3])
                  rotate_left
                  · simp only [Act.put, List.setIfInBounds_toArray, List.set_cons_zero, List.set_cons_succ, i64_w, i32_w]
                    rfl
                  refine pure_ (i := 2) (N := some 54) (v := ?_) (a' := ?_) #[true, true, true, false, false, false, false, false, false, false, false, false, false, false, false] rfl rfl (any_of HT_.out zb15) (fun _ _ _ h => h) (Or.inl ⟨by rfl, ?_⟩) ?_ ?_
                  rotate_left
                  · intro w'
                    go_simp
                    first | with_reducible rfl | (rw [if_neg zb3])
                  rotate_left
                  · simp only [Act.put, List.setIfInBounds_toArray, List.set_cons_zero, List.set_cons_succ, i64_w, i32_w]
                    rfl
                  refine pure_ (i := 3) (N := some 55) (v := ?_) (a' := ?_) #[true, true, true, true, false, false, false, false, false, false, false, false, false, false, false] rfl rfl (any_of HT_.out zb15) (fun _ _ _ h => h) (Or.inl ⟨by rfl, ?_⟩) ?_ ?_
                  rotate_left
                  · intro w'
                    go_simp
                    first | with_reducible rfl | (rw [if_neg zb3])
                  rotate_left
                  · simp only [Act.put, List.setIfInBounds_toArray, List.set_cons_zero, List.set_cons_succ, i64_w, i32_w]
                    rfl
                  refine pure_ (i := 4) (N := some 56) (v := ?_) (a' := ?_) #[true, true, true, true, true, false, false, false, false, false, false, false, false, false, false] rfl rfl (any_of HT_.out zb15) (fun _ _ _ h => h) (Or.inl ⟨by rfl, ?_⟩) ?_ ?_
                  rotate_left
                  · intro w'
                    go_simp
                    first | with_reducible rfl | (rw [if_neg zb3])
                  rotate_left
                  · simp only [Act.put, List.setIfInBounds_toArray, List.set_cons_zero, List.set_cons_succ, i64_w, i32_w]
                    rfl
                  refine pure_ (i := 5) (N := some 57) (v := ?_) (a' := ?_) #[true, true, true, true, true, true, false, false, false, false, false, false, false, false, false] rfl rfl (any_of HT_.out zb15) (fun _ _ _ h => h) (Or.inl ⟨by rfl, ?_⟩) ?_ ?_
                  rotate_left
                  · intro w'
                    go_simp
                    first | with_reducible rfl | (rw [if_neg zb3])
                  rotate_left
                  · simp only [Act.put, List.setIfInBounds_toArray, List.set_cons_zero, List.set_cons_succ, i64_w, i32_w]
                    rfl
                  refine pure_ (i := 6) (N := some 58) (v := ?_) (a' := ?_) #[true, true, true, true, true, true, true, false, false, false, false, false, false, false, false] rfl rfl (any_of HT_.out zb15) (fun _ _ _ h => h) (Or.inl ⟨by rfl, ?_⟩) ?_ ?_
                  rotate_left
                  · intro w'
                    go_simp
                    first | with_reducible rfl | (rw [if_neg zb3])
                  rotate_left
                  · simp only [Act.put, List.setIfInBounds_toArray, List.set_cons_zero, List.set_cons_succ, i64_w, i32_w]
                    rfl
                  refine pure_ (i := 7) (N := some 59) (v := ?_) (a' := ?_) #[true, true, true, true, true, true, true, true, false, false, false, false, false, false, false] rfl rfl (any_of HT_.out zb15) (fun _ _ _ h => h) (Or.inl ⟨by rfl, ?_⟩) ?_ ?_
                  rotate_left
                  · intro w'
                    go_simp
                    first | with_reducible rfl | (rw [if_neg zb3])
                  rotate_left
                  · simp only [Act.put, List.setIfInBounds_toArray, List.set_cons_zero, List.set_cons_succ, i64_w, i32_w]
                    rfl
                  refine pure_ (i := 9) (N := some 61) (v := ?_) (a' := ?_) #[true, true, true, true, true, true, true, true, false, true, false, false, false, false, false] rfl rfl (any_of HT_.out zb15) (fun _ _ _ h => h) (Or.inl ⟨by rfl, ?_⟩) ?_ ?_
                  rotate_left
                  · intro w'
                    go_simp
                    first | with_reducible rfl | (rw [if_neg zb3])
                  rotate_left
                  · simp only [Act.put, List.setIfInBounds_toArray, List.set_cons_zero, List.set_cons_succ, i64_w, i32_w]
                    rfl
                  refine take_ (i := 10) (N := some 62) (v := ?_) (a' := ?_) #[true, true, true, true, true, true, true, true, false, true, true, false, false, false, false] rfl rfl (take_ofW HT_.out HW_.out zb15) (fun _ _ _ h => h) (Or.inl ⟨by rfl, ?_⟩) hHeld ?_ ?_
                  rotate_left
                  · rintro w' ⟨s0, s1⟩
                    go_simp
                    first | with_reducible rfl | (rw [if_neg zb3])
                  rotate_left
                  · simp only [Act.put, List.setIfInBounds_toArray, List.set_cons_zero, List.set_cons_succ, i64_w, i32_w]
                    rfl
                  refine one_ (i := 8) (N := some 60) #[true, true, true, true, true, true, true, true, true, true, true, false, false, false, false] rfl rfl (one_of HT_.out zb15) (by decide) (fun K hK => ?_)
                  refine goes_ Tryd.func55 zb15 rfl #[.string t154] (by rfl) rfl rfl zb1 ?_
                  with_reducible refine (media_Small.calls t154 t156 _ A21.out).mono ?_
                  rintro e w32 ⟨rfl, hb⟩
                  refine ⟨_, rfl, ?_⟩
                  have n0_ := Aside0.mk (blk_below (g := gb150) (o := .cells #[.string a0_0, .string a0_1, .slice (some ad152) l0_2.length c0_2] 45 (0, 0)) zb6 hb)
                  have n1_ := Aside0.mk (blk_below (g := gb151) (o := .cells #[.string a1_0, .string a1_1, .slice A1_2 l1_2.length c1_2] 45 (0, 0)) zb8 hb)
                  have n2_ := Aside0.mk (blk_below (g := gb153) (o := .cells #[.string ((rd_T48 l0_2 x41_1).f0), .string ((rd_T48 l0_2 x41_1).f1)] 48 (0, 0)) zb35 hb)
                  have n3_ := Aside0.mk (below_step zb4 hb)
                  clear BK150
                  clear BK151
                  clear BK153
                  clear HB
                  have BK150 := n0_
                  have BK151 := n1_
                  have BK153 := n2_
                  have HB := n3_
                  clear n0_ n1_ n2_ n3_
                  (try clear hb)
                  (try clear hb2)
                  (try clear hk)
                  (try clear hi)
                  refine hK.out _ _ ⟨(blk_cell BK153.out 0).trans rfl, (blk_cell BK153.out 1).trans rfl⟩ (fun hHeld => ?_)
                  clear hK K
                  refine norm_ (a' := ?_) ?_ ?_
                  rotate_left
                  · show Act.put _ (some 60) _ = _
                    simp only [Act.put, List.setIfInBounds_toArray, List.set_cons_zero, List.set_cons_succ, i64_w, i32_w]
                    rfl
                  refine one_ (i := 11) (N := some 63) #[true, true, true, true, true, true, true, true, true, true, true, true, false, false, false] rfl rfl (one_of HT_.out zb15) (by decide) (fun K hK => ?_)
                  refine goes_ Tryd.func55 zb15 rfl #[.string ((rd_T48 l0_2 x41_1).f1)] (by rfl) rfl rfl zb1 ?_
                  with_reducible refine (media_Small.calls ((rd_T48 l0_2 x41_1).f1) t157 _ A22.out).mono ?_
                  rintro e w33 ⟨rfl, hb⟩
                  refine ⟨_, rfl, ?_⟩
                  have n0_ := Aside0.mk (blk_below (g := gb150) (o := .cells #[.string a0_0, .string a0_1, .slice (some ad152) l0_2.length c0_2] 45 (0, 0)) zb6 hb)
                  have n1_ := Aside0.mk (blk_below (g := gb151) (o := .cells #[.string a1_0, .string a1_1, .slice A1_2 l1_2.length c1_2] 45 (0, 0)) zb8 hb)
                  have n2_ := Aside0.mk (blk_below (g := gb153) (o := .cells #[.string ((rd_T48 l0_2 x41_1).f0), .string ((rd_T48 l0_2 x41_1).f1)] 48 (0, 0)) zb35 hb)
                  have n3_ := Aside0.mk (below_step zb4 hb)
                  clear BK150
                  clear BK151
                  clear BK153
                  clear HB
                  have BK150 := n0_
                  have BK151 := n1_
                  have BK153 := n2_
                  have HB := n3_
                  clear n0_ n1_ n2_ n3_
                  (try clear hb)
                  (try clear hb2)
                  (try clear hk)
                  (try clear hi)
                  refine hK.out _ _ ⟨(blk_cell BK153.out 0).trans rfl, (blk_cell BK153.out 1).trans rfl⟩ (fun hHeld => ?_)
                  clear hK K
                  refine norm_ (a' := ?_) ?_ ?_
                  rotate_left
                  · show Act.put _ (some 63) _ = _
                    simp only [Act.put, List.setIfInBounds_toArray, List.set_cons_zero, List.set_cons_succ, i64_w, i32_w]
                    rfl
                  refine pure_ (i := 12) (N := some 64) (v := ?_) (a' := ?_) #[true, true, true, true, true, true, true, true, true, true, true, true, true, false, false] rfl rfl (any_of HT_.out zb15) (fun _ _ _ h => h) (Or.inl ⟨by rfl, ?_⟩) ?_ ?_
                  rotate_left
                  · intro w'
                    go_simp
                    first | with_reducible rfl | (rw [if_neg zb3])
                  rotate_left
                  · simp only [Act.put, List.setIfInBounds_toArray, List.set_cons_zero, List.set_cons_succ, i64_w, i32_w]
                    rfl
                  refine pure_ (i := 13) (N := some 65) (v := ?_) (a' := ?_) #[true, true, true, true, true, true, true, true, true, true, true, true, true, true, false] rfl rfl (any_of HT_.out zb15) (fun _ _ _ h => h) (Or.inl ⟨by rfl, ?_⟩) ?_ ?_
                  rotate_left
                  · intro w'
                    go_simp
                    first | with_reducible rfl | (rw [if_neg zb3])
                  rotate_left
                  · simp only [Act.put, List.setIfInBounds_toArray, List.set_cons_zero, List.set_cons_succ, i64_w, i32_w]
                    rfl
                  refine pure_ (i := 14) (N := some 66) (v := ?_) (a' := ?_) #[true, true, true, true, true, true, true, true, true, true, true, true, true, true, true] rfl rfl (any_of HT_.out zb15) (fun _ _ _ h => h) (Or.inl ⟨by rfl, ?_⟩) ?_ ?_
                  rotate_left
                  · intro w'
                    go_simp
                    first | with_reducible rfl | (rw [if_neg zb3])
                  rotate_left
                  · simp only [Act.put, List.setIfInBounds_toArray, List.set_cons_zero, List.set_cons_succ, i64_w, i32_w]
                    rfl
                  refine done_ (done_of HT_.out zb15) ?_
                  try go_wp2
                  go_roundg k1
                  case measure => have := HK1.out; omega
                  case rel => exact ⟨(wrap64 (x41_1 + 1)), zb18, H', ⟨by have := HK1.out; omega⟩, ⟨by (with_reducible repeat (first | refine blk_drewN ?_ _ | refine blk_drew ?_ | refine blk_alloc ?_ _)); exact BK150.out⟩, ⟨by (with_reducible repeat (first | refine blk_drewN ?_ _ | refine blk_drew ?_ | refine blk_alloc ?_ _)); exact BK151.out⟩, ⟨by repeat (first | (with_reducible first | exact HB.out | apply below_alloc | apply pw_below_drewN | apply below_drew1 | refine below_set ?_ GE150.out | refine below_set ?_ GE151.out | refine below_set ?_ GE153.out) | exact HB.out)⟩⟩
                · rw [if_neg c23] at H
                  have c23b0 : (t156.toList == t157.toList) = false := beq_eq_false_iff_ne.mpr c23
                  have c23b1 : (t156.toList != t157.toList) = true := bne_iff_ne.mpr c23
                  obtain rfl := Option.some.inj H
                  have p152 : 0 ≤ (x41_1 : Int) := of_decide_eq_true zb11
                  have q152 : x41_1 < (l0_2.length : Int) := of_decide_eq_true zb11
                  obtain ⟨ad152, e152, hx152_0, hx152_1⟩ := at_T48 HR0_2.out x41_1 p152 q152
                  cases e152
                  replace hx152_0 := (HB.out.cell (World.block_lt_of_cell? w _ hx152_0)).trans hx152_0
                  replace hx152_1 := (HB.out.cell (World.block_lt_of_cell? w _ hx152_1)).trans hx152_1
                  replace p152 := eq_true p152
                  replace q152 := eq_true q152
                  try go_wp2_with (first | ((with_reducible refine gate_dst (N := 8) rfl ?_); refine box_event ?hg (N := 8) ?hd (cs := #[.string (⟨#[]⟩ : ByteArray), .string (⟨#[]⟩ : ByteArray)]) (t := 48) ?hr ?_; (case hd => rfl); (case hg => rfl); (case hr => first | (go_simp; done) | (go_simp; rfl)); intro gb153 hg w34 hbox hb; have n0_ := Aside0.mk (blk_below (g := gb150) (o := .cells #[.string a0_0, .string a0_1, .slice (some ad152) l0_2.length c0_2] 45 (0, 0)) zb6 hb); have n1_ := Aside0.mk (blk_below (g := gb151) (o := .cells #[.string a1_0, .string a1_1, .slice A1_2 l1_2.length c1_2] 45 (0, 0)) zb8 hb); have n2_ := Aside0.mk (below_step zb5 hb); have n3_ := Aside0.mk (hbox); have n4_ := Aside0.mk ((by rw [hg]; exact (below_size zb5) : w.heap.size ≤ gb153)); have n5_ := Aside0.mk ((by rw [hg]; exact (below_size zb5) : w.heap.size ≤ gb153)); have n6_ := Aside0.mk ((by rw [hg]; exact Nat.ne_of_lt (blk_lt (g := gb150) (o := .cells #[.string a0_0, .string a0_1, .slice (some ad152) l0_2.length c0_2] 45 (0, 0)) zb6) : gb150 ≠ gb153)); have n7_ := Aside0.mk ((by rw [hg]; exact Nat.ne_of_gt (blk_lt (g := gb150) (o := .cells #[.string a0_0, .string a0_1, .slice (some ad152) l0_2.length c0_2] 45 (0, 0)) zb6) : gb153 ≠ gb150)); have n8_ := Aside0.mk ((by rw [hg]; exact Nat.ne_of_lt (blk_lt (g := gb151) (o := .cells #[.string a1_0, .string a1_1, .slice A1_2 l1_2.length c1_2] 45 (0, 0)) zb8) : gb151 ≠ gb153)); have n9_ := Aside0.mk ((by rw [hg]; exact Nat.ne_of_gt (blk_lt (g := gb151) (o := .cells #[.string a1_0, .string a1_1, .slice A1_2 l1_2.length c1_2] 45 (0, 0)) zb8) : gb153 ≠ gb151)); clear BK150; clear BK151; clear HB; have BK150 := n0_; have BK151 := n1_; have HB := n2_; have BK153 := n3_; have GW153 := n4_; have GE153 := n5_; have NB150_153 := n6_; have NB153_150 := n7_; have NB151_153 := n8_; have NB153_151 := n9_; clear n0_ n1_ n2_ n3_ n4_ n5_ n6_ n7_ n8_ n9_; clear hb hbox hg; have hnb35 := NB153_150.out; have hnc35 := NB150_153.out; have hnb36 := NB153_151.out; have hnc36 := NB151_153.out; have hcz37_0 : w34.cell? ⟨gb153, 0, none⟩ = some (.string (⟨#[]⟩ : ByteArray)) := (blk_cell BK153.out 0).trans rfl; have hcz37_1 : w34.cell? ⟨gb153, 1, none⟩ = some (.string (⟨#[]⟩ : ByteArray)) := (blk_cell BK153.out 1).trans rfl; have hfz37_0 := blk_frozen BK153.out 0; have hfz37_1 := blk_frozen BK153.out 1; have hnb38 := NB151_150.out; have hnc38 := NB150_151.out; have hcz39_0 : w34.cell? ⟨gb151, 0, none⟩ = some (.string a1_0) := (blk_cell BK151.out 0).trans rfl; have hcz39_1 : w34.cell? ⟨gb151, 1, none⟩ = some (.string a1_1) := (blk_cell BK151.out 1).trans rfl; have hcz39_2 : w34.cell? ⟨gb151, 2, none⟩ = some (.slice A1_2 l1_2.length c1_2) := (blk_cell BK151.out 2).trans rfl; have hfz39_0 := blk_frozen BK151.out 0; have hfz39_1 := blk_frozen BK151.out 1; have hfz39_2 := blk_frozen BK151.out 2) | ((with_reducible refine gate_callee (f := 41) rfl ?_); refine goesL_ (some 49) rfl rfl Tryd.func41 zb15 rfl #[.agg #[.string a1_0, .string a1_1, .slice A1_2 l1_2.length c1_2], .string ((rd_T48 l0_2 x41_1).f0)] rfl zb1 ?_; (with_reducible refine (media_Param.calls k1 a1_0 a1_1 _ _ l1_2 ((rd_T48 l0_2 x41_1).f0) t154 true _ ?side1 ?side2 A10.out).mono ?_); (case side1 => exact Kd.C_below HR1_2.out zb4); (case side2 => exact HC1_2.out); rintro e w40 ⟨rfl, hb⟩; refine ⟨_, rfl, ?_⟩; have n0_ := Aside0.mk (blk_below (g := gb150) (o := .cells #[.string a0_0, .string a0_1, .slice (some ad152) l0_2.length c0_2] 45 (0, 0)) zb20 hb); have n1_ := Aside0.mk (blk_below (g := gb151) (o := .cells #[.string a1_0, .string a1_1, .slice A1_2 l1_2.length c1_2] 45 (0, 0)) zb19 hb); have n2_ := Aside0.mk (blk_below (g := gb153) (o := .cells #[.string ((rd_T48 l0_2 x41_1).f0), .string ((rd_T48 l0_2 x41_1).f1)] 48 (0, 0)) zb14 hb); have n3_ := Aside0.mk (below_step zb4 hb); clear BK150; clear BK151; clear BK153; clear HB; have BK150 := n0_; have BK151 := n1_; have BK153 := n2_; have HB := n3_; clear n0_ n1_ n2_ n3_; (try clear hb); (try clear hb2); (try clear hk); (try clear hi)))
                  have n0_ := Aside0.mk (blk_drew BK150.out)
                  have n1_ := Aside0.mk (blk_drew BK151.out)
                  have n2_ := Aside0.mk (blk_drew BK153.out)
                  have n3_ := Aside0.mk (below_drew1 HB.out)
                  clear BK150
                  clear BK151
                  clear BK153
                  clear HB
                  have BK150 := n0_
                  have BK151 := n1_
                  have BK153 := n2_
                  have HB := n3_
                  clear n0_ n1_ n2_ n3_
                  refine start_ (n := 15) (S := fun w' => w'.cell? ⟨gb153, 0, none⟩ = some (.string ((rd_T48 l0_2 x41_1).f0)) ∧ w'.cell? ⟨gb153, 1, none⟩ = some (.string ((rd_T48 l0_2 x41_1).f1))) (ds := []) #[false, false, false, false, false, false, false, false, false, false, false, false, false, false, false] zb15 rfl rfl ⟨(blk_cell BK153.out 0).trans rfl, (blk_cell BK153.out 1).trans rfl⟩ (fun hHeld => ?_); refine with_tabW media_FitsP.tab11 media_FitsP.bits11 (fun HT_ HW_ => ?_)
                  generalize w40.drew = w41 at BK150 BK151 BK153 HB hHeld ⊢
                  refine pure_ (i := 0) (N := some 52) (v := ?_) (a' := ?_) #[true, false, false, false, false, false, false, false, false, false, false, false, false, false, false] rfl rfl (any_of HT_.out zb15) (fun _ _ _ h => h) (Or.inl ⟨by rfl, ?_⟩) ?_ ?_
                  rotate_left
                  · intro w'
                    go_simp
                    first | with_reducible rfl | (rw [if_neg zb3])
                  rotate_left
                  · simp only [Act.put, List.setIfInBounds_toArray, List.set_cons_zero, List.set_cons_succ, i64_w, i32_w]
                    rfl
                  refine take_ (i := 1) (N := some 53) (v := ?_) (a' := ?_) #[true, true, false, false, false, false, false, false, false, false, false, false, false, false, false] rfl rfl (take_ofW HT_.out HW_.out zb15) (fun _ _ _ h => h) (Or.inl ⟨by rfl, ?_⟩) hHeld ?_ ?_
                  rotate_left
                  · rintro w' ⟨s0, s1⟩
                    go_simp
                    first | with_reducible rfl | (rw [if_neg zb3])
                  rotate_left
                  · simp only [Act.put, List.setIfInBounds_toArray, List.set_cons_zero, List.set_cons_succ, i64_w, i32_w]
                    rfl
                  refine pure_ (i := 2) (N := some 54) (v := ?_) (a' := ?_) #[true, true, true, false, false, false, false, false, false, false, false, false, false, false, false] rfl rfl (any_of HT_.out zb15) (fun _ _ _ h => h) (Or.inl ⟨by rfl, ?_⟩) ?_ ?_
                  rotate_left
                  · intro w'
                    go_simp
                    first | with_reducible rfl | (rw [if_neg zb3])
                  rotate_left
                  · simp only [Act.put, List.setIfInBounds_toArray, List.set_cons_zero, List.set_cons_succ, i64_w, i32_w]
                    rfl
                  refine pure_ (i := 3) (N := some 55) (v := ?_) (a' := ?_) #[true, true, true, true, false, false, false, false, false, false, false, false, false, false, false] rfl rfl (any_of HT_.out zb15) (fun _ _ _ h => h) (Or.inl ⟨by rfl, ?_⟩) ?_ ?_
                  rotate_left
                  · intro w'
                    go_simp
                    first | with_reducible rfl | (rw [if_neg zb3])
                  rotate_left
                  · simp only [Act.put, List.setIfInBounds_toArray, List.set_cons_zero, List.set_cons_succ, i64_w, i32_w]
                    rfl
                  refine pure_ (i := 4) (N := some 56) (v := ?_) (a' := ?_) #[true, true, true, true, true, false, false, false, false, false, false, false, false, false, false] rfl rfl (any_of HT_.out zb15) (fun _ _ _ h => h) (Or.inl ⟨by rfl, ?_⟩) ?_ ?_
                  rotate_left
                  · intro w'
                    go_simp
                    first | with_reducible rfl | (rw [if_neg zb3])
                  rotate_left
                  · simp only [Act.put, List.setIfInBounds_toArray, List.set_cons_zero, List.set_cons_succ, i64_w, i32_w]
                    rfl
                  refine pure_ (i := 5) (N := some 57) (v := ?_) (a' := ?_) #[true, true, true, true, true, true, false, false, false, false, false, false, false, false, false] rfl rfl (any_of HT_.out zb15) (fun _ _ _ h => h) (Or.inl ⟨by rfl, ?_⟩) ?_ ?_
                  rotate_left
                  · intro w'
                    go_simp
                    first | with_reducible rfl | (rw [if_neg zb3])
                  rotate_left
                  · simp only [Act.put, List.setIfInBounds_toArray, List.set_cons_zero, List.set_cons_succ, i64_w, i32_w]
                    rfl
                  refine pure_ (i := 6) (N := some 58) (v := ?_) (a' := ?_) #[true, true, true, true, true, true, true, false, false, false, false, false, false, false, false] rfl rfl (any_of HT_.out zb15) (fun _ _ _ h => h) (Or.inl ⟨by rfl, ?_⟩) ?_ ?_
                  rotate_left
                  · intro w'
                    go_simp
                    first | with_reducible rfl | (rw [if_neg zb3])
                  rotate_left
                  · simp only [Act.put, List.setIfInBounds_toArray, List.set_cons_zero, List.set_cons_succ, i64_w, i32_w]
                    rfl
                  refine pure_ (i := 7) (N := some 59) (v := ?_) (a' := ?_) #[true, true, true, true, true, true, true, true, false, false, false, false, false, false, false] rfl rfl (any_of HT_.out zb15) (fun _ _ _ h => h) (Or.inl ⟨by rfl, ?_⟩) ?_ ?_
                  rotate_left
                  · intro w'
                    go_simp
                    first | with_reducible rfl | (rw [if_neg zb3])
                  rotate_left
                  · simp only [Act.put, List.setIfInBounds_toArray, List.set_cons_zero, List.set_cons_succ, i64_w, i32_w]
                    rfl
                  refine pure_ (i := 9) (N := some 61) (v := ?_) (a' := ?_) #[true, true, true, true, true, true, true, true, false, true, false, false, false, false, false] rfl rfl (any_of HT_.out zb15) (fun _ _ _ h => h) (Or.inl ⟨by rfl, ?_⟩) ?_ ?_
                  rotate_left
                  · intro w'
                    go_simp
                    first | with_reducible rfl | (rw [if_neg zb3])
                  rotate_left
                  · simp only [Act.put, List.setIfInBounds_toArray, List.set_cons_zero, List.set_cons_succ, i64_w, i32_w]
                    rfl
                  refine take_ (i := 10) (N := some 62) (v := ?_) (a' := ?_) #[true, true, true, true, true, true, true, true, false, true, true, false, false, false, false] rfl rfl (take_ofW HT_.out HW_.out zb15) (fun _ _ _ h => h) (Or.inl ⟨by rfl, ?_⟩) hHeld ?_ ?_
                  rotate_left
                  · rintro w' ⟨s0, s1⟩
                    go_simp
                    first | with_reducible rfl | (rw [if_neg zb3])
                  rotate_left
                  · simp only [Act.put, List.setIfInBounds_toArray, List.set_cons_zero, List.set_cons_succ, i64_w, i32_w]
                    rfl
                  refine one_ (i := 8) (N := some 60) #[true, true, true, true, true, true, true, true, true, true, true, false, false, false, false] rfl rfl (one_of HT_.out zb15) (by decide) (fun K hK => ?_)
                  refine goes_ Tryd.func55 zb15 rfl #[.string t154] (by rfl) rfl rfl zb1 ?_
                  with_reducible refine (media_Small.calls t154 t156 _ A21.out).mono ?_
                  rintro e w42 ⟨rfl, hb⟩
                  refine ⟨_, rfl, ?_⟩
                  have n0_ := Aside0.mk (blk_below (g := gb150) (o := .cells #[.string a0_0, .string a0_1, .slice (some ad152) l0_2.length c0_2] 45 (0, 0)) zb6 hb)
                  have n1_ := Aside0.mk (blk_below (g := gb151) (o := .cells #[.string a1_0, .string a1_1, .slice A1_2 l1_2.length c1_2] 45 (0, 0)) zb8 hb)
                  have n2_ := Aside0.mk (blk_below (g := gb153) (o := .cells #[.string ((rd_T48 l0_2 x41_1).f0), .string ((rd_T48 l0_2 x41_1).f1)] 48 (0, 0)) zb35 hb)
                  have n3_ := Aside0.mk (below_step zb4 hb)
                  clear BK150
                  clear BK151
                  clear BK153
                  clear HB
                  have BK150 := n0_
                  have BK151 := n1_
                  have BK153 := n2_
                  have HB := n3_
                  clear n0_ n1_ n2_ n3_
                  (try clear hb)
                  (try clear hb2)
                  (try clear hk)
                  (try clear hi)
                  refine hK.out _ _ ⟨(blk_cell BK153.out 0).trans rfl, (blk_cell BK153.out 1).trans rfl⟩ (fun hHeld => ?_)
                  clear hK K
                  refine norm_ (a' := ?_) ?_ ?_
                  rotate_left
                  · show Act.put _ (some 60) _ = _
                    simp only [Act.put, List.setIfInBounds_toArray, List.set_cons_zero, List.set_cons_succ, i64_w, i32_w]
                    rfl
                  refine one_ (i := 11) (N := some 63) #[true, true, true, true, true, true, true, true, true, true, true, true, false, false, false] rfl rfl (one_of HT_.out zb15) (by decide) (fun K hK => ?_)
                  refine goes_ Tryd.func55 zb15 rfl #[.string ((rd_T48 l0_2 x41_1).f1)] (by rfl) rfl rfl zb1 ?_
                  with_reducible refine (media_Small.calls ((rd_T48 l0_2 x41_1).f1) t157 _ A22.out).mono ?_
                  rintro e w43 ⟨rfl, hb⟩
                  refine ⟨_, rfl, ?_⟩
                  have n0_ := Aside0.mk (blk_below (g := gb150) (o := .cells #[.string a0_0, .string a0_1, .slice (some ad152) l0_2.length c0_2] 45 (0, 0)) zb6 hb)
                  have n1_ := Aside0.mk (blk_below (g := gb151) (o := .cells #[.string a1_0, .string a1_1, .slice A1_2 l1_2.length c1_2] 45 (0, 0)) zb8 hb)
                  have n2_ := Aside0.mk (blk_below (g := gb153) (o := .cells #[.string ((rd_T48 l0_2 x41_1).f0), .string ((rd_T48 l0_2 x41_1).f1)] 48 (0, 0)) zb35 hb)
                  have n3_ := Aside0.mk (below_step zb4 hb)
                  clear BK150
                  clear BK151
                  clear BK153
                  clear HB
                  have BK150 := n0_
                  have BK151 := n1_
                  have BK153 := n2_
                  have HB := n3_
                  clear n0_ n1_ n2_ n3_
                  (try clear hb)
                  (try clear hb2)
                  (try clear hk)
                  (try clear hi)
                  refine hK.out _ _ ⟨(blk_cell BK153.out 0).trans rfl, (blk_cell BK153.out 1).trans rfl⟩ (fun hHeld => ?_)
                  clear hK K
                  refine norm_ (a' := ?_) ?_ ?_
                  rotate_left
                  · show Act.put _ (some 63) _ = _
                    simp only [Act.put, List.setIfInBounds_toArray, List.set_cons_zero, List.set_cons_succ, i64_w, i32_w]
                    rfl
                  refine pure_ (i := 12) (N := some 64) (v := ?_) (a' := ?_) #[true, true, true, true, true, true, true, true, true, true, true, true, true, false, false] rfl rfl (any_of HT_.out zb15) (fun _ _ _ h => h) (Or.inl ⟨by rfl, ?_⟩) ?_ ?_
                  rotate_left
                  · intro w'
                    go_simp
                    first | with_reducible rfl | (rw [if_neg zb3])
                  rotate_left
                  · simp only [Act.put, List.setIfInBounds_toArray, List.set_cons_zero, List.set_cons_succ, i64_w, i32_w]
                    rfl
                  refine pure_ (i := 13) (N := some 65) (v := ?_) (a' := ?_) #[true, true, true, true, true, true, true, true, true, true, true, true, true, true, false] rfl rfl (any_of HT_.out zb15) (fun _ _ _ h => h) (Or.inl ⟨by rfl, ?_⟩) ?_ ?_
                  rotate_left
                  · intro w'
                    go_simp
                    first | with_reducible rfl | (rw [if_neg zb3])
                  rotate_left
                  · simp only [Act.put, List.setIfInBounds_toArray, List.set_cons_zero, List.set_cons_succ, i64_w, i32_w]
                    rfl
                  refine pure_ (i := 14) (N := some 66) (v := ?_) (a' := ?_) #[true, true, true, true, true, true, true, true, true, true, true, true, true, true, true] rfl rfl (any_of HT_.out zb15) (fun _ _ _ h => h) (Or.inl ⟨by rfl, ?_⟩) ?_ ?_
                  rotate_left
                  · intro w'
                    go_simp
                    first | with_reducible rfl | (rw [if_neg zb3])
                  rotate_left
                  · simp only [Act.put, List.setIfInBounds_toArray, List.set_cons_zero, List.set_cons_succ, i64_w, i32_w]
                    rfl
                  refine done_ (done_of HT_.out zb15) ?_
                  try go_wp2
                  go_ret
                  exact ⟨zb10, zb4⟩
              · replace c20 := Bool.eq_false_iff.mpr c20
                subst c20
                replace H : (some false) = some r := by rw [if_neg (show ¬ (false = true) by decide)] at H; exact H
                obtain rfl := Option.some.inj H
                have p152 : 0 ≤ (x41_1 : Int) := of_decide_eq_true zb11
                have q152 : x41_1 < (l0_2.length : Int) := of_decide_eq_true zb11
                obtain ⟨ad152, e152, hx152_0, hx152_1⟩ := at_T48 HR0_2.out x41_1 p152 q152
                cases e152
                replace hx152_0 := (HB.out.cell (World.block_lt_of_cell? w _ hx152_0)).trans hx152_0
                replace hx152_1 := (HB.out.cell (World.block_lt_of_cell? w _ hx152_1)).trans hx152_1
                replace p152 := eq_true p152
                replace q152 := eq_true q152
                try go_wp2_with (first | ((with_reducible refine gate_dst (N := 8) rfl ?_); refine box_event ?hg (N := 8) ?hd (cs := #[.string (⟨#[]⟩ : ByteArray), .string (⟨#[]⟩ : ByteArray)]) (t := 48) ?hr ?_; (case hd => rfl); (case hg => rfl); (case hr => first | (go_simp; done) | (go_simp; rfl)); intro gb153 hg w44 hbox hb; have n0_ := Aside0.mk (blk_below (g := gb150) (o := .cells #[.string a0_0, .string a0_1, .slice (some ad152) l0_2.length c0_2] 45 (0, 0)) zb6 hb); have n1_ := Aside0.mk (blk_below (g := gb151) (o := .cells #[.string a1_0, .string a1_1, .slice A1_2 l1_2.length c1_2] 45 (0, 0)) zb8 hb); have n2_ := Aside0.mk (below_step zb5 hb); have n3_ := Aside0.mk (hbox); have n4_ := Aside0.mk ((by rw [hg]; exact (below_size zb5) : w.heap.size ≤ gb153)); have n5_ := Aside0.mk ((by rw [hg]; exact (below_size zb5) : w.heap.size ≤ gb153)); have n6_ := Aside0.mk ((by rw [hg]; exact Nat.ne_of_lt (blk_lt (g := gb150) (o := .cells #[.string a0_0, .string a0_1, .slice (some ad152) l0_2.length c0_2] 45 (0, 0)) zb6) : gb150 ≠ gb153)); have n7_ := Aside0.mk ((by rw [hg]; exact Nat.ne_of_gt (blk_lt (g := gb150) (o := .cells #[.string a0_0, .string a0_1, .slice (some ad152) l0_2.length c0_2] 45 (0, 0)) zb6) : gb153 ≠ gb150)); have n8_ := Aside0.mk ((by rw [hg]; exact Nat.ne_of_lt (blk_lt (g := gb151) (o := .cells #[.string a1_0, .string a1_1, .slice A1_2 l1_2.length c1_2] 45 (0, 0)) zb8) : gb151 ≠ gb153)); have n9_ := Aside0.mk ((by rw [hg]; exact Nat.ne_of_gt (blk_lt (g := gb151) (o := .cells #[.string a1_0, .string a1_1, .slice A1_2 l1_2.length c1_2] 45 (0, 0)) zb8) : gb153 ≠ gb151)); clear BK150; clear BK151; clear HB; have BK150 := n0_; have BK151 := n1_; have HB := n2_; have BK153 := n3_; have GW153 := n4_; have GE153 := n5_; have NB150_153 := n6_; have NB153_150 := n7_; have NB151_153 := n8_; have NB153_151 := n9_; clear n0_ n1_ n2_ n3_ n4_ n5_ n6_ n7_ n8_ n9_; clear hb hbox hg; have hnb45 := NB153_150.out; have hnc45 := NB150_153.out; have hnb46 := NB153_151.out; have hnc46 := NB151_153.out; have hcz47_0 : w44.cell? ⟨gb153, 0, none⟩ = some (.string (⟨#[]⟩ : ByteArray)) := (blk_cell BK153.out 0).trans rfl; have hcz47_1 : w44.cell? ⟨gb153, 1, none⟩ = some (.string (⟨#[]⟩ : ByteArray)) := (blk_cell BK153.out 1).trans rfl; have hfz47_0 := blk_frozen BK153.out 0; have hfz47_1 := blk_frozen BK153.out 1; have hnb48 := NB151_150.out; have hnc48 := NB150_151.out; have hcz49_0 : w44.cell? ⟨gb151, 0, none⟩ = some (.string a1_0) := (blk_cell BK151.out 0).trans rfl; have hcz49_1 : w44.cell? ⟨gb151, 1, none⟩ = some (.string a1_1) := (blk_cell BK151.out 1).trans rfl; have hcz49_2 : w44.cell? ⟨gb151, 2, none⟩ = some (.slice A1_2 l1_2.length c1_2) := (blk_cell BK151.out 2).trans rfl; have hfz49_0 := blk_frozen BK151.out 0; have hfz49_1 := blk_frozen BK151.out 1; have hfz49_2 := blk_frozen BK151.out 2) | ((with_reducible refine gate_callee (f := 41) rfl ?_); refine goesL_ (some 49) rfl rfl Tryd.func41 zb15 rfl #[.agg #[.string a1_0, .string a1_1, .slice A1_2 l1_2.length c1_2], .string ((rd_T48 l0_2 x41_1).f0)] rfl zb1 ?_; (with_reducible refine (media_Param.calls k1 a1_0 a1_1 _ _ l1_2 ((rd_T48 l0_2 x41_1).f0) t154 false _ ?side1 ?side2 A10.out).mono ?_); (case side1 => exact Kd.C_below HR1_2.out zb4); (case side2 => exact HC1_2.out); rintro e w50 ⟨rfl, hb⟩; refine ⟨_, rfl, ?_⟩; have n0_ := Aside0.mk (blk_below (g := gb150) (o := .cells #[.string a0_0, .string a0_1, .slice (some ad152) l0_2.length c0_2] 45 (0, 0)) zb20 hb); have n1_ := Aside0.mk (blk_below (g := gb151) (o := .cells #[.string a1_0, .string a1_1, .slice A1_2 l1_2.length c1_2] 45 (0, 0)) zb19 hb); have n2_ := Aside0.mk (blk_below (g := gb153) (o := .cells #[.string ((rd_T48 l0_2 x41_1).f0), .string ((rd_T48 l0_2 x41_1).f1)] 48 (0, 0)) zb14 hb); have n3_ := Aside0.mk (below_step zb4 hb); clear BK150; clear BK151; clear BK153; clear HB; have BK150 := n0_; have BK151 := n1_; have BK153 := n2_; have HB := n3_; clear n0_ n1_ n2_ n3_; (try clear hb); (try clear hb2); (try clear hk); (try clear hi)))
                have n0_ := Aside0.mk (blk_drew BK150.out)
                have n1_ := Aside0.mk (blk_drew BK151.out)
                have n2_ := Aside0.mk (blk_drew BK153.out)
                have n3_ := Aside0.mk (below_drew1 HB.out)
                clear BK150
                clear BK151
                clear BK153
                clear HB
                have BK150 := n0_
                have BK151 := n1_
                have BK153 := n2_
                have HB := n3_
                clear n0_ n1_ n2_ n3_
                refine start_ (n := 15) (S := fun w' => w'.cell? ⟨gb153, 0, none⟩ = some (.string ((rd_T48 l0_2 x41_1).f0)) ∧ w'.cell? ⟨gb153, 1, none⟩ = some (.string ((rd_T48 l0_2 x41_1).f1))) (ds := []) #[false, false, false, false, false, false, false, false, false, false, false, false, false, false, false] zb15 rfl rfl ⟨(blk_cell BK153.out 0).trans rfl, (blk_cell BK153.out 1).trans rfl⟩ (fun hHeld => ?_); refine with_tabW media_FitsP.tab11 media_FitsP.bits11 (fun HT_ HW_ => ?_)
                generalize w50.drew = w51 at BK150 BK151 BK153 HB hHeld ⊢
                refine pure_ (i := 0) (N := some 52) (v := ?_) (a' := ?_) #[true, false, false, false, false, false, false, false, false, false, false, false, false, false, false] rfl rfl (any_of HT_.out zb15) (fun _ _ _ h => h) (Or.inl ⟨by rfl, ?_⟩) ?_ ?_
                rotate_left
                · intro w'
                  go_simp
                  first | with_reducible rfl | (rw [if_neg zb3])
                rotate_left
                · simp only [Act.put, List.setIfInBounds_toArray, List.set_cons_zero, List.set_cons_succ, i64_w, i32_w]
                  rfl
                refine take_ (i := 1) (N := some 53) (v := ?_) (a' := ?_) #[true, true, false, false, false, false, false, false, false, false, false, false, false, false, false] rfl rfl (take_ofW HT_.out HW_.out zb15) (fun _ _ _ h => h) (Or.inl ⟨by rfl, ?_⟩) hHeld ?_ ?_
                rotate_left
                · rintro w' ⟨s0, s1⟩
                  go_simp
                  first | with_reducible rfl | (rw [if_neg zb3])
                rotate_left
                · simp only [Act.put, List.setIfInBounds_toArray, List.set_cons_zero, List.set_cons_succ, i64_w, i32_w]
                  rfl
                refine pure_ (i := 2) (N := some 54) (v := ?_) (a' := ?_) #[true, true, true, false, false, false, false, false, false, false, false, false, false, false, false] rfl rfl (any_of HT_.out zb15) (fun _ _ _ h => h) (Or.inl ⟨by rfl, ?_⟩) ?_ ?_
                rotate_left
                · intro w'
                  go_simp
                  first | with_reducible rfl | (rw [if_neg zb3])
                rotate_left
                · simp only [Act.put, List.setIfInBounds_toArray, List.set_cons_zero, List.set_cons_succ, i64_w, i32_w]
                  rfl
                refine pure_ (i := 3) (N := some 55) (v := ?_) (a' := ?_) #[true, true, true, true, false, false, false, false, false, false, false, false, false, false, false] rfl rfl (any_of HT_.out zb15) (fun _ _ _ h => h) (Or.inl ⟨by rfl, ?_⟩) ?_ ?_
                rotate_left
                · intro w'
                  go_simp
                  first | with_reducible rfl | (rw [if_neg zb3])
                rotate_left
                · simp only [Act.put, List.setIfInBounds_toArray, List.set_cons_zero, List.set_cons_succ, i64_w, i32_w]
                  rfl
                refine pure_ (i := 4) (N := some 56) (v := ?_) (a' := ?_) #[true, true, true, true, true, false, false, false, false, false, false, false, false, false, false] rfl rfl (any_of HT_.out zb15) (fun _ _ _ h => h) (Or.inl ⟨by rfl, ?_⟩) ?_ ?_
                rotate_left
                · intro w'
                  go_simp
                  first | with_reducible rfl | (rw [if_neg zb3])
                rotate_left
                · simp only [Act.put, List.setIfInBounds_toArray, List.set_cons_zero, List.set_cons_succ, i64_w, i32_w]
                  rfl
                refine pure_ (i := 5) (N := some 57) (v := ?_) (a' := ?_) #[true, true, true, true, true, true, false, false, false, false, false, false, false, false, false] rfl rfl (any_of HT_.out zb15) (fun _ _ _ h => h) (Or.inl ⟨by rfl, ?_⟩) ?_ ?_
                rotate_left
                · intro w'
                  go_simp
                  first | with_reducible rfl | (rw [if_neg zb3])
                rotate_left
                · simp only [Act.put, List.setIfInBounds_toArray, List.set_cons_zero, List.set_cons_succ, i64_w, i32_w]
                  rfl
                refine pure_ (i := 6) (N := some 58) (v := ?_) (a' := ?_) #[true, true, true, true, true, true, true, false, false, false, false, false, false, false, false] rfl rfl (any_of HT_.out zb15) (fun _ _ _ h => h) (Or.inl ⟨by rfl, ?_⟩) ?_ ?_
                rotate_left
                · intro w'
                  go_simp
                  first | with_reducible rfl | (rw [if_neg zb3])
                rotate_left
                · simp only [Act.put, List.setIfInBounds_toArray, List.set_cons_zero, List.set_cons_succ, i64_w, i32_w]
                  rfl
                refine pure_ (i := 7) (N := some 59) (v := undef) (a' := ?_) #[true, true, true, true, true, true, true, true, false, false, false, false, false, false, false] rfl rfl (any_of HT_.out zb15) (fun _ _ _ h => h) (Or.inr ⟨by rfl, rfl⟩) ?_ ?_
                rotate_left
                · simp only [Act.put, List.setIfInBounds_toArray, List.set_cons_zero, List.set_cons_succ, i64_w, i32_w]
                  rfl
                refine pure_ (i := 8) (N := some 60) (v := undef) (a' := ?_) #[true, true, true, true, true, true, true, true, true, false, false, false, false, false, false] rfl rfl (any_of HT_.out zb15) (fun _ _ _ h => h) (Or.inr ⟨by rfl, rfl⟩) ?_ ?_
                rotate_left
                · simp only [Act.put, List.setIfInBounds_toArray, List.set_cons_zero, List.set_cons_succ, i64_w, i32_w]
                  rfl
                refine pure_ (i := 9) (N := some 61) (v := undef) (a' := ?_) #[true, true, true, true, true, true, true, true, true, true, false, false, false, false, false] rfl rfl (any_of HT_.out zb15) (fun _ _ _ h => h) (Or.inr ⟨by rfl, rfl⟩) ?_ ?_
                rotate_left
                · simp only [Act.put, List.setIfInBounds_toArray, List.set_cons_zero, List.set_cons_succ, i64_w, i32_w]
                  rfl
                refine pure_ (i := 10) (N := some 62) (v := undef) (a' := ?_) #[true, true, true, true, true, true, true, true, true, true, true, false, false, false, false] rfl rfl (any_of HT_.out zb15) (fun _ _ _ h => h) (Or.inr ⟨by rfl, rfl⟩) ?_ ?_
                rotate_left
                · simp only [Act.put, List.setIfInBounds_toArray, List.set_cons_zero, List.set_cons_succ, i64_w, i32_w]
                  rfl
                refine pure_ (i := 11) (N := some 63) (v := undef) (a' := ?_) #[true, true, true, true, true, true, true, true, true, true, true, true, false, false, false] rfl rfl (any_of HT_.out zb15) (fun _ _ _ h => h) (Or.inr ⟨by rfl, rfl⟩) ?_ ?_
                rotate_left
                · simp only [Act.put, List.setIfInBounds_toArray, List.set_cons_zero, List.set_cons_succ, i64_w, i32_w]
                  rfl
                refine pure_ (i := 12) (N := some 64) (v := undef) (a' := ?_) #[true, true, true, true, true, true, true, true, true, true, true, true, true, false, false] rfl rfl (any_of HT_.out zb15) (fun _ _ _ h => h) (Or.inr ⟨by rfl, rfl⟩) ?_ ?_
                rotate_left
                · simp only [Act.put, List.setIfInBounds_toArray, List.set_cons_zero, List.set_cons_succ, i64_w, i32_w]
                  rfl
                refine pure_ (i := 13) (N := some 65) (v := ?_) (a' := ?_) #[true, true, true, true, true, true, true, true, true, true, true, true, true, true, false] rfl rfl (any_of HT_.out zb15) (fun _ _ _ h => h) (Or.inl ⟨by rfl, ?_⟩) ?_ ?_
                rotate_left
                · intro w'
                  go_simp
                  first | with_reducible rfl | (rw [if_neg zb3])
                rotate_left
                · simp only [Act.put, List.setIfInBounds_toArray, List.set_cons_zero, List.set_cons_succ, i64_w, i32_w]
                  rfl
                refine pure_ (i := 14) (N := some 66) (v := ?_) (a' := ?_) #[true, true, true, true, true, true, true, true, true, true, true, true, true, true, true] rfl rfl (any_of HT_.out zb15) (fun _ _ _ h => h) (Or.inl ⟨by rfl, ?_⟩) ?_ ?_
                rotate_left
                · intro w'
                  go_simp
                  first | with_reducible rfl | (rw [if_neg zb3])
                rotate_left
                · simp only [Act.put, List.setIfInBounds_toArray, List.set_cons_zero, List.set_cons_succ, i64_w, i32_w]
                  rfl
                refine done_ (done_of HT_.out zb15) ?_
                try go_wp2
                go_ret
                exact ⟨zb10, zb4⟩
          · rw [if_neg c9] at H
            exact absurd H (by simp)
        · rw [if_neg c8] at H
          exact absurd H (by simp)
      · rw [if_neg c7] at H
        have c7b0 : decide (x41_1 < (l0_2.length : Int)) = false := decide_eq_false c7
        clear c7
        obtain rfl := Option.some.inj H
        go_wp2
        go_ret
        exact ⟨zb10, zb5⟩
end Go.Proofs.YtghfbhobpodoeaaDoor.O
/- SpQb -/
namespace Go.Proofs.YtghfbhobpodoeaaDoor.Sp
open Go Go.RowKit Go.Proofs.YtghfbhobpodoeaaDoorW.PrintWords Go.Proofs.YtghfbhobpodoeaaDoorW.PrintLast Go.Proofs.YtghfbhobpodoeaaDoor.O Go.Proofs.YtghfbhobpodoeaaDoor.P
set_option linter.unusedVariables false
set_option linter.unusedSimpArgs false
def padD (p : L) : L := (p ++ [48, 48, 48]).take 3
def weiL (s : L) : Nat :=
  if ((Lib.cut s [46]).1 ≠ [48] ∧ (Lib.cut s [46]).1 ≠ [49]) ∨ 3 < (Lib.cut s [46]).2.1.length ∨ (Lib.cut s [46]).2.1.all digB = false then nanW
  else if numN 0 ((Lib.cut s [46]).1 ++ padD (Lib.cut s [46]).2.1) > 1000 then nanW else fdiv (numN 0 ((Lib.cut s [46]).1 ++ padD (Lib.cut s [46]).2.1))
theorem dig_eq : (([48, 49, 50, 51, 52, 53, 54, 55, 56, 57] : L).contains · : UInt8 → Bool) = digB := by
  funext c
  obtain ⟨a, rfl⟩ := u8_fin c
  exact dig_all a
theorem trim_dig (s : L) : Lib.trimS s [48, 49, 50, 51, 52, 53, 54, 55, 56, 57] = [] ↔ s.all digB = true := by
  unfold Lib.trimS Lib.trimRightS Lib.trimLeftS
  rw [dig_eq]
  rw [dw_nil, List.all_eq_true]
  constructor
  · intro h x hx
    by_cases hd : s.reverse.dropWhile digB = []
    · exact (dw_nil digB s.reverse).1 hd x (List.mem_reverse.2 hx)
    · obtain ⟨c, r, hc⟩ := List.exists_cons_of_ne_nil hd
      have h1 := dw_head digB s.reverse c r hc
      have h2 := h c (by rw [hc]; simp)
      rw [h1] at h2
      cases h2
  · intro h x hx
    exact h x (List.mem_reverse.1 ((List.dropWhile_sublist digB).subset (List.mem_reverse.1 hx)))
theorem pad_dig (p : L) (h : p.all digB = true) : ∀ c ∈ padD p, digB c = true := by
  intro c hc
  have := List.mem_of_mem_take hc
  rcases List.mem_append.1 this with h1 | h1
  · exact List.all_eq_true.1 h c h1
  · simp at h1
    subst h1
    decide
theorem pad_len (p : L) : (padD p).length = 3 := by unfold padD; rw [List.length_take, List.length_append]; simp
theorem weiF (s : L) (hs : s.length < 4294967281) : quality_Weight.f (mk s) = some (weiL s) := by
  unfold quality_Weight.f
  rw [mk_size, if_pos hs]
  have e1 : (cutF (mk s) (⟨#[46]⟩ : ByteArray)).1 = mk (Lib.cut s [46]).1 := by unfold cutF; rw [mk_data]; rfl
  have e2 : (cutF (mk s) (⟨#[46]⟩ : ByteArray)).2.1 = mk (Lib.cut s [46]).2.1 := by unfold cutF; rw [mk_data]; rfl
  have hb : weiBad (mk s) ↔ (((Lib.cut s [46]).1 ≠ [48] ∧ (Lib.cut s [46]).1 ≠ [49]) ∨ 3 < (Lib.cut s [46]).2.1.length ∨ (Lib.cut s [46]).2.1.all digB = false) := by
    unfold weiBad
    rw [e1, e2, tl_mk, mk_size, mk_data]
    have : digS.data.toList = [48, 49, 50, 51, 52, 53, 54, 55, 56, 57] := rfl
    rw [this, ne_eq (Lib.trimS _ _), trim_dig, Bool.not_eq_true]
  unfold weiL
  by_cases h : weiBad (mk s)
  · rw [if_pos h, if_pos (hb.1 h)]
  · rw [if_neg h, if_neg (fun x => h (hb.2 x))]
    have h' : ¬ _ := fun x => h (hb.2 x)
    have hn : weiN (mk s) = ((numN 0 ((Lib.cut s [46]).1 ++ padD (Lib.cut s [46]).2.1) : Nat) : Int) := by
      unfold weiN
      rw [e1, e2, show (⟨#[48, 48, 48]⟩ : ByteArray) = mk [48, 48, 48] from rfl, mk_append, ext_to, mk_append, mk_data]
      show (atoiF ((Lib.cut s [46]).1 ++ padD (Lib.cut s [46]).2.1)).1 = _
      have hw : (Lib.cut s [46]).1 = [48] ∨ (Lib.cut s [46]).1 = [49] := by
        by_cases a : (Lib.cut s [46]).1 = [48]
        · exact .inl a
        · by_cases b : (Lib.cut s [46]).1 = [49]
          · exact .inr b
          · exact absurd (Or.inl ⟨a, b⟩) h'
      have hd : (Lib.cut s [46]).2.1.all digB = true := by
        cases x : (Lib.cut s [46]).2.1.all digB
        · exact absurd (Or.inr (Or.inr x)) h'
        · rfl
      rw [atoi_num _ (by rcases hw with a | a <;> rw [a] <;> simp) (fun c hc => by
        rcases List.mem_append.1 hc with h1 | h1
        · rcases hw with a | a <;> rw [a] at h1 <;> simp at h1 <;> subst h1 <;> decide
        · exact pad_dig _ hd c h1) (by rw [List.length_append, pad_len]; rcases hw with a | a <;> rw [a] <;> simp)]
    rw [hn]
    by_cases hbig : numN 0 ((Lib.cut s [46]).1 ++ padD (Lib.cut s [46]).2.1) > 1000
    · rw [if_pos (by omega), if_pos hbig]
    · rw [if_neg (by omega), if_neg hbig, if_pos (by omega)]
      rfl
def param (ps : List (L × L)) (n : L) : Option L := (ps.find? fun p => p.1 == n).map (·.2)
theorem rdp (l : List (L × L)) (i : Nat) (p : L × L) (h : l[i]? = some p) : rd_T48 (pairsB l) (i : Int) = ⟨mk p.1, mk p.2⟩ := by
  unfold rd_T48 pairsB
  rw [Int.toNat_natCast, List.getD_eq_getElem?_getD, List.getElem?_map, h]
  rfl
theorem w1_ (i : Nat) (h : i ≤ 1000000000000) : wrap64 ((i : Int) + 1) = ((i + 1 : Nat) : Int) := by rw [wrap_id (by omega) (by omega)]; omega
theorem param_l0 (ps : List (L × L)) (n : L) (hl : ps.length ≤ 100000000000) : ∀ (d k i : Nat), i + d = ps.length → d < k →
    media_Param.l0 k (mk n) (pairsB ps) ((pairsB ps).length : Int) (i : Int) = some (match param (ps.drop i) n with
      | some v => (mk v, true)
      | none => ((⟨#[]⟩ : ByteArray), false)) := by
  intro d
  induction d with
  | zero =>
    intro k i hi hk
    obtain ⟨k, rfl⟩ : ∃ m, k = m + 1 := ⟨k - 1, by omega⟩
    rw [media_Param.l0, if_neg (by rw [pairsB_len]; omega), List.drop_eq_nil_of_le (by omega)]
    rfl
  | succ d ih =>
    intro k i hi hk
    obtain ⟨k, rfl⟩ : ∃ m, k = m + 1 := ⟨k - 1, by omega⟩
    have hlt : i < ps.length := by omega
    rw [media_Param.l0, if_pos (by rw [pairsB_len]; omega), if_pos (by omega), if_pos (by rw [pairsB_len]; omega), rdp ps i ps[i] (List.getElem?_eq_getElem hlt), tl_mk, tl_mk, List.drop_eq_getElem_cons hlt]
    unfold param
    by_cases h : ps[i].1 = n
    · rw [if_pos h, List.find?_cons_of_pos (by simpa using h)]
      rfl
    · rw [if_neg h, List.find?_cons_of_neg (by simpa using h), w1_ i (by omega), ih k (i + 1) (by omega) (by omega)]
      rfl
theorem paramF (a b : ByteArray) (ps : List (L × L)) (n : L) (k : Nat) (hl : ps.length ≤ 100000000000) (hk : ps.length < k) :
    media_Param.f k a b (pairsB ps) (mk n) = some (match param ps n with
      | some v => (mk v, true)
      | none => ((⟨#[]⟩ : ByteArray), false)) := by
  unfold media_Param.f
  have := param_l0 ps n hl ps.length k 0 (by omega) hk
  simpa using this
def cntL : List (L × L) → Int → Int
  | [], n => n
  | p :: l, n => cntL l (if p.1 = [113] then n else wrap64 (n + 1))
def hundL (t : L) (n : Int) : Int := if t = [42] then n else wrap64 (n + 100)
def narrowL (m : Med) : Int := hundL m.s (hundL m.t (cntL m.ps 0))
theorem cnt_eq (l : List (L × L)) : ∀ n, cntP (pairsB l) n = cntL l n := by
  induction l with
  | nil => intro n; rfl
  | cons p r ih =>
    intro n
    show cntP (⟨mk p.1, mk p.2⟩ :: pairsB r) n = _
    rw [cntP, cntL, tl_mk, ih]
theorem narrow_eq (m : Med) : narrowF (mk m.t) (mk m.s) (pairsB m.ps) = narrowL m := by
  unfold narrowF narrowL hund hundL
  rw [tl_mk, tl_mk, cnt_eq]
structure Rng where
  m : Med
  w : Nat
  n : Int
def medB (m : Med) : S45 := ⟨mk m.t, mk m.s, pairsB m.ps⟩
def rngB (r : Rng) : S70 := ⟨medB r.m, r.w, r.n⟩
def rngL (t : L) : Option Rng := (mparse t).map fun m => ⟨m, (match param m.ps [113] with
  | some v => weiL v
  | none => one64), narrowL m⟩
def rangesL (s : L) : List Rng := (split s).filterMap rngL
end Go.Proofs.YtghfbhobpodoeaaDoor.Sp
/- Px11 -/
namespace Go.Proofs.YtghfbhobpodoeaaDoor.P
open Go.Proofs.YtghfbhobpodoeaaDoor.B
open Go.RowKit Go.Proofs.YtghfbhobpodoeaaDoorW.PrintWords Go.Proofs.YtghfbhobpodoeaaDoorW.PrintLast Go.Proofs.YtghfbhobpodoeaaDoorW.PrintMore
attribute [local go_sem] run_store_float str_leq str_gtr str_geq max2_int min2_int max_two min_two max_three min_three max_four min_four
set_option linter.unusedVariables false
set_option linter.unusedSimpArgs false
open Go.Proofs.YtghfbhobpodoeaaDoor.O
def quality_weight.l0 : Nat → List (S70) → Int → Int → ByteArray → ByteArray → List (S48) → ByteArray → ByteArray → List (S48) → Nat → Int → Option (Nat)
  | 0, _, _, _, _, _, _, _, _, _, _, _ => none
  | k + 1, x9, x10, x11, x151000, x151001, x151002, x152000, x152001, x152002, x152003, x152004 => if x11 < x10 then (if 0 ≤ x11 then (if x11 < (x9.length : Int) then ((media_Fits.f k ((rd_T70 x9 x11).f0.f0) ((rd_T70 x9 x11).f0.f1) ((rd_T70 x9 x11).f0.f2) x151000 x151001 x151002).bind fun t154 => (if t154 = true then (if ((rd_T70 x9 x11).f2) > x152004 then (quality_weight.l0 k x9 x10 (wrap64 (x11 + 1)) x151000 x151001 x151002 ((rd_T70 x9 x11).f0.f0) ((rd_T70 x9 x11).f0.f1) ((rd_T70 x9 x11).f0.f2) ((rd_T70 x9 x11).f1) ((rd_T70 x9 x11).f2)) else (quality_weight.l0 k x9 x10 (wrap64 (x11 + 1)) x151000 x151001 x151002 x152000 x152001 x152002 x152003 x152004)) else (quality_weight.l0 k x9 x10 (wrap64 (x11 + 1)) x151000 x151001 x151002 x152000 x152001 x152002 x152003 x152004))) else (none)) else (none)) else ((quality_Clamp.f x152003).bind fun t155 => (some t155))
def quality_weight.f (k : Nat) (l0 : List (S70)) (a1_0 : ByteArray) (a1_1 : ByteArray) (l1_2 : List (S48)) : Option (Nat) := quality_weight.l0 k l0 (l0.length : Int) 0 a1_0 a1_1 l1_2 (⟨#[]⟩ : ByteArray) (⟨#[]⟩ : ByteArray) ([] : List (S48)) 0 (-1)
set_option maxHeartbeats 8000000 in
set_option maxRecDepth 100000 in
theorem quality_weight.calls (k : Nat) (P0_ : Nat → Prop) (A0 : Option Addr) (c0 : Nat) (l0 : List (S70)) (a1_0 : ByteArray) (a1_1 : ByteArray) (A1_2 : Option Addr) (c1_2 : Nat) (l1_2 : List (S48)) (r : Nat) (w : World) (hs0 : Kd.V k70 70 w w.heap.size (fun k_ => P0_ k_) (.slice A0 l0.length c0) l0) (hr1_2 : Kd.C k48 w A1_2 l1_2.length l1_2) (hc1_2 : l1_2.length ≤ c1_2) (h : quality_weight.f k l0 a1_0 a1_1 l1_2 = some r) :
  Calls Tryd.prog 26 #[.slice A0 l0.length c0, .agg #[.string a1_0, .string a1_1, .slice A1_2 l1_2.length c1_2]] w fun e w' => e = .returned (.float .f64 r) ∧ Below w.heap.size w w' := by
 have hu45 := Tryd.underlying45
 have hu70 := Tryd.underlying70
 have HO0 := Aside0.mk (show Kd.V k70 70 w w.heap.size (fun k_ => (P0_ k_ ∨ w.heap.size ≤ k_)) (.slice A0 l0.length c0) l0 from Kd.V_mono hs0 (fun k_ hk => .inl hk))
 have HR1_2 := Aside0.mk hr1_2
 have HC1_2 := Aside0.mk hc1_2
 clear hr1_2 hc1_2
 have HB := Aside0.mk (Below.refl w.heap.size w)
 have H : (quality_weight.l0 k l0 (l0.length : Int) 0 a1_0 a1_1 l1_2 (⟨#[]⟩ : ByteArray) (⟨#[]⟩ : ByteArray) ([] : List (S48)) 0 (-1)) = some r := h
 clear h
 have H' := Aside0.mk H
 clear H
 go_enter Tryd.func26, Tryd.ntmps26
 go_wp2_with (first | ((with_reducible refine gate_dst (N := 3) rfl ?_); refine box_event ?hg (N := 3) ?hd (cs := #[.string a1_0, .string a1_1, .slice A1_2 l1_2.length c1_2]) (t := 45) ?hr ?_; (case hd => rfl); (case hg => rfl); (case hr => first | (go_simp; done) | (go_simp; rfl)); intro gb150 hg w3 hbox hb; have n0_ := Aside0.mk (Kd.V_below (Kd.V_elderB (by (with_reducible repeat (first | apply Kd.V_alloc | apply Kd.V_drewN | apply Kd.V_drew)); exact HO0.out) gb150 (Nat.le_of_eq hg.symm)) hb); have n1_ := Aside0.mk (below_step zb0 hb); have n2_ := Aside0.mk (hbox); have n3_ := Aside0.mk ((by rw [hg]; exact (below_size zb0) : w.heap.size ≤ gb150)); have n4_ := Aside0.mk ((by rw [hg]; exact (below_size zb0) : w.heap.size ≤ gb150)); clear HO0; clear HB; have HO0 := n0_; have HB := n1_; have BK150 := n2_; have GW150 := n3_; have GE150 := n4_; clear n0_ n1_ n2_ n3_ n4_; clear hb hbox hg) | ((with_reducible refine gate_dst (N := 5) rfl ?_); refine box_event ?hg (N := 5) ?hd (cs := #[.string (⟨#[]⟩ : ByteArray), .string (⟨#[]⟩ : ByteArray), .slice none 0 0, .float .f64 0, .int .i64 0]) (t := 70) ?hr ?_; (case hd => rfl); (case hg => rfl); (case hr => first | (go_simp; done) | (go_simp; rfl)); intro gb151 hg w4 hbox hb; have n0_ := Aside0.mk (Kd.V_below (Kd.V_elderB (by (with_reducible repeat (first | apply Kd.V_alloc | apply Kd.V_drewN | apply Kd.V_drew)); exact HO0.out) gb151 (Nat.le_of_eq hg.symm)) hb); have n1_ := Aside0.mk (blk_below (g := gb150) (o := .cells #[.string a1_0, .string a1_1, .slice A1_2 l1_2.length c1_2] 45 (0, 0)) zb6 hb); have n2_ := Aside0.mk (below_step zb27 hb); have n3_ := Aside0.mk (hbox); have n4_ := Aside0.mk ((by rw [hg]; exact (below_size zb27) : w.heap.size ≤ gb151)); have n5_ := Aside0.mk ((by rw [hg]; exact (below_size zb27) : w.heap.size ≤ gb151)); have n6_ := Aside0.mk ((by rw [hg]; exact Nat.ne_of_lt (blk_lt (g := gb150) (o := .cells #[.string a1_0, .string a1_1, .slice A1_2 l1_2.length c1_2] 45 (0, 0)) zb6) : gb150 ≠ gb151)); have n7_ := Aside0.mk ((by rw [hg]; exact Nat.ne_of_gt (blk_lt (g := gb150) (o := .cells #[.string a1_0, .string a1_1, .slice A1_2 l1_2.length c1_2] 45 (0, 0)) zb6) : gb151 ≠ gb150)); clear HO0; clear BK150; clear HB; have HO0 := n0_; have BK150 := n1_; have HB := n2_; have BK151 := n3_; have GW151 := n4_; have GE151 := n5_; have NB150_151 := n6_; have NB151_150 := n7_; clear n0_ n1_ n2_ n3_ n4_ n5_ n6_ n7_; clear hb hbox hg; have hnb5 := NB151_150.out; have hnc5 := NB150_151.out; have hcz6_0 : w4.cell? ⟨gb151, 0, none⟩ = some (.string (⟨#[]⟩ : ByteArray)) := (blk_cell BK151.out 0).trans rfl; have hcz6_1 : w4.cell? ⟨gb151, 1, none⟩ = some (.string (⟨#[]⟩ : ByteArray)) := (blk_cell BK151.out 1).trans rfl; have hcz6_2 : w4.cell? ⟨gb151, 2, none⟩ = some (.slice none 0 0) := (blk_cell BK151.out 2).trans rfl; have hcz6_3 : w4.cell? ⟨gb151, 3, none⟩ = some (.float .f64 0) := (blk_cell BK151.out 3).trans rfl; have hcz6_4 : w4.cell? ⟨gb151, 4, none⟩ = some (.int .i64 0) := (blk_cell BK151.out 4).trans rfl; have hfz6_0 := blk_frozen BK151.out 0; have hfz6_1 := blk_frozen BK151.out 1; have hfz6_2 := blk_frozen BK151.out 2; have hfz6_3 := blk_frozen BK151.out 3; have hfz6_4 := blk_frozen BK151.out 4))
 first | go_loopg [11] k (fun kq v11 w' => ∃ (x11_1 : Int) (x152000_1 : ByteArray) (x152001_1 : ByteArray) (x152002_1 : List (S48)) (x152003_1 : Nat) (x152004_1 : Int) (u152002 : Value), v11 = .int .i64 x11_1 ∧ Aside0 (quality_weight.l0 kq l0 (l0.length : Int) x11_1 a1_0 a1_1 l1_2 x152000_1 x152001_1 x152002_1 x152003_1 x152004_1 = some r) ∧ Aside0 (kq ≤ k) ∧ Aside0 (Kd.V k70 70 w' w.heap.size (fun k_ => (P0_ k_ ∨ w.heap.size ≤ k_) ∧ k_ ≠ gb150 ∧ k_ ≠ gb151) (.slice A0 l0.length c0) l0) ∧ Aside0 (Kd.V k48 48 w' w.heap.size (fun k_ => (P0_ k_ ∨ w.heap.size ≤ k_) ∧ k_ ≠ gb150 ∧ k_ ≠ gb151) u152002 x152002_1) ∧ Aside0 (w'.heap[gb150]? = some (.cells #[.string a1_0, .string a1_1, (.slice A1_2 l1_2.length c1_2)] 45 (0, 0))) ∧ Aside0 (w'.heap[gb151]? = some (.cells #[.string x152000_1, .string x152001_1, u152002, .float .f64 x152003_1, .int .i64 x152004_1] 70 (0, 0))) ∧ Aside0 (Below w.heap.size w w')) | (go_simp; go_loopg [11] k (fun kq v11 w' => ∃ (x11_1 : Int) (x152000_1 : ByteArray) (x152001_1 : ByteArray) (x152002_1 : List (S48)) (x152003_1 : Nat) (x152004_1 : Int) (u152002 : Value), v11 = .int .i64 x11_1 ∧ Aside0 (quality_weight.l0 kq l0 (l0.length : Int) x11_1 a1_0 a1_1 l1_2 x152000_1 x152001_1 x152002_1 x152003_1 x152004_1 = some r) ∧ Aside0 (kq ≤ k) ∧ Aside0 (Kd.V k70 70 w' w.heap.size (fun k_ => (P0_ k_ ∨ w.heap.size ≤ k_) ∧ k_ ≠ gb150 ∧ k_ ≠ gb151) (.slice A0 l0.length c0) l0) ∧ Aside0 (Kd.V k48 48 w' w.heap.size (fun k_ => (P0_ k_ ∨ w.heap.size ≤ k_) ∧ k_ ≠ gb150 ∧ k_ ≠ gb151) u152002 x152002_1) ∧ Aside0 (w'.heap[gb150]? = some (.cells #[.string a1_0, .string a1_1, (.slice A1_2 l1_2.length c1_2)] 45 (0, 0))) ∧ Aside0 (w'.heap[gb151]? = some (.cells #[.string x152000_1, .string x152001_1, u152002, .float .f64 x152003_1, .int .i64 x152004_1] 70 (0, 0))) ∧ Aside0 (Below w.heap.size w w')))
 case atStart => exact ⟨(0), ((⟨#[]⟩ : ByteArray)), ((⟨#[]⟩ : ByteArray)), (([] : List (S48))), (0), ((-1)), (.slice none 0 0), zb18, H', ⟨Nat.le_refl _⟩, ⟨by (with_reducible repeat (first | apply Kd.V_alloc | apply Kd.V_drewN | apply Kd.V_drew)); exact Kd.V_mono (Kd.V_far (p := ⟨gb151, 4, none⟩) (Kd.V_far (p := ⟨gb151, 3, none⟩) (Kd.V_far (p := ⟨gb151, 2, none⟩) (Kd.V_far (p := ⟨gb151, 1, none⟩) (Kd.V_far (p := ⟨gb151, 0, none⟩) (Kd.V_mono HO0.out (fun k_ hk => (⟨hk, hk.2⟩ : _ ∧ k_ ≠ gb151))) (fun _ hk => hk.2) (.string (⟨#[]⟩ : ByteArray))) (fun _ hk => hk.2) (.string (⟨#[]⟩ : ByteArray))) (fun _ hk => hk.2) (.slice none 0 0)) (fun _ hk => hk.2) (.float .f64 0)) (fun _ hk => hk.2) (.int .i64 (-1))) (fun _ hk => ⟨hk.1.1.1, ⟨hk.1.1.2, hk.1.2⟩⟩)⟩, ⟨Kd.V_nil _ _ _ _ _⟩, ⟨by (with_reducible repeat (first | refine blk_drewN ?_ _ | refine blk_drew ?_ | refine blk_alloc ?_ _)); refine blk_far ?_ NB150_151.out _; (with_reducible repeat (first | refine blk_drewN ?_ _ | refine blk_drew ?_ | refine blk_alloc ?_ _)); refine blk_far ?_ NB150_151.out _; (with_reducible repeat (first | refine blk_drewN ?_ _ | refine blk_drew ?_ | refine blk_alloc ?_ _)); refine blk_far ?_ NB150_151.out _; (with_reducible repeat (first | refine blk_drewN ?_ _ | refine blk_drew ?_ | refine blk_alloc ?_ _)); refine blk_far ?_ NB150_151.out _; (with_reducible repeat (first | refine blk_drewN ?_ _ | refine blk_drew ?_ | refine blk_alloc ?_ _)); refine blk_far ?_ NB150_151.out _; (with_reducible repeat (first | refine blk_drewN ?_ _ | refine blk_drew ?_ | refine blk_alloc ?_ _)); exact BK150.out⟩, ⟨by (with_reducible repeat (first | refine blk_drewN ?_ _ | refine blk_drew ?_ | refine blk_alloc ?_ _)); refine blk_put (cs := #[.string (⟨#[]⟩ : ByteArray), .string (⟨#[]⟩ : ByteArray), .slice none 0 0, .float .f64 0, .int .i64 0]) ?_ 4 _ rfl; (with_reducible repeat (first | refine blk_drewN ?_ _ | refine blk_drew ?_ | refine blk_alloc ?_ _)); refine blk_put (cs := #[.string (⟨#[]⟩ : ByteArray), .string (⟨#[]⟩ : ByteArray), .slice none 0 0, .float .f64 0, .int .i64 0]) ?_ 3 _ rfl; (with_reducible repeat (first | refine blk_drewN ?_ _ | refine blk_drew ?_ | refine blk_alloc ?_ _)); refine blk_put (cs := #[.string (⟨#[]⟩ : ByteArray), .string (⟨#[]⟩ : ByteArray), .slice none 0 0, .float .f64 0, .int .i64 0]) ?_ 2 _ rfl; (with_reducible repeat (first | refine blk_drewN ?_ _ | refine blk_drew ?_ | refine blk_alloc ?_ _)); refine blk_put (cs := #[.string (⟨#[]⟩ : ByteArray), .string (⟨#[]⟩ : ByteArray), .slice none 0 0, .float .f64 0, .int .i64 0]) ?_ 1 _ rfl; (with_reducible repeat (first | refine blk_drewN ?_ _ | refine blk_drew ?_ | refine blk_alloc ?_ _)); refine blk_put (cs := #[.string (⟨#[]⟩ : ByteArray), .string (⟨#[]⟩ : ByteArray), .slice none 0 0, .float .f64 0, .int .i64 0]) ?_ 0 _ rfl; (with_reducible repeat (first | refine blk_drewN ?_ _ | refine blk_drew ?_ | refine blk_alloc ?_ _)); exact BK151.out⟩, ⟨by repeat (first | (with_reducible first | exact HB.out | apply below_alloc | apply pw_below_drewN | apply below_drew1 | refine below_set ?_ GE150.out | refine below_set ?_ GE151.out) | exact HB.out)⟩⟩
 case round =>
  clear H'
  try clear c1
  try clear c2
  try clear p2
  try clear c5
  try clear hcz6_0
  try clear hcz6_1
  try clear hcz6_2
  try clear hcz6_3
  try clear hcz6_4
  try clear hfz6_0
  try clear hfz6_1
  try clear hfz6_2
  try clear hfz6_3
  try clear hfz6_4
  obtain ⟨x11_1, x152000_1, x152001_1, x152002_1, x152003_1, x152004_1, u152002, rfl, HA, HK1, HO_9, HO_152002, BK150, BK151, HB⟩ := hrel
  cases gk with
  | zero => exact absurd HA.out (by simp [quality_weight.l0])
  | succ k1 =>
   have H := HA.out
   clear HA
   simp only [quality_weight.l0] at H
   by_cases c7 : x11_1 < (l0.length : Int)
   ·rw [if_pos c7] at H
    have c7b0 : decide (x11_1 < (l0.length : Int)) = true := decide_eq_true c7
    clear c7
    by_cases c8 : 0 ≤ x11_1
    ·rw [if_pos c8] at H
     have c8b0 : decide (0 ≤ x11_1) = true := decide_eq_true c8
     clear c8
     by_cases c9 : x11_1 < (l0.length : Int)
     ·rw [if_pos c9] at H
      have c9b0 : decide (x11_1 < (l0.length : Int)) = true := decide_eq_true c9
      clear c9
      replace H := Option.bind_eq_some_iff.mp H
      obtain ⟨t154, A100, H⟩ := H
      replace H : (if t154 = true then (if ((rd_T70 l0 x11_1).f2) > x152004_1 then (quality_weight.l0 k1 l0 (l0.length : Int) (wrap64 (x11_1 + 1)) a1_0 a1_1 l1_2 ((rd_T70 l0 x11_1).f0.f0) ((rd_T70 l0 x11_1).f0.f1) ((rd_T70 l0 x11_1).f0.f2) ((rd_T70 l0 x11_1).f1) ((rd_T70 l0 x11_1).f2)) else (quality_weight.l0 k1 l0 (l0.length : Int) (wrap64 (x11_1 + 1)) a1_0 a1_1 l1_2 x152000_1 x152001_1 x152002_1 x152003_1 x152004_1)) else (quality_weight.l0 k1 l0 (l0.length : Int) (wrap64 (x11_1 + 1)) a1_0 a1_1 l1_2 x152000_1 x152001_1 x152002_1 x152003_1 x152004_1)) = some r := H
      have A10 := Aside0.mk A100
      clear A100
      by_cases c11 : t154 = true
      ·subst c11
       replace H : (if ((rd_T70 l0 x11_1).f2) > x152004_1 then (quality_weight.l0 k1 l0 (l0.length : Int) (wrap64 (x11_1 + 1)) a1_0 a1_1 l1_2 ((rd_T70 l0 x11_1).f0.f0) ((rd_T70 l0 x11_1).f0.f1) ((rd_T70 l0 x11_1).f0.f2) ((rd_T70 l0 x11_1).f1) ((rd_T70 l0 x11_1).f2)) else (quality_weight.l0 k1 l0 (l0.length : Int) (wrap64 (x11_1 + 1)) a1_0 a1_1 l1_2 x152000_1 x152001_1 x152002_1 x152003_1 x152004_1)) = some r := by rw [if_pos rfl] at H; exact H
       by_cases c12 : ((rd_T70 l0 x11_1).f2) > x152004_1
       ·rw [if_pos c12] at H
        have c12b0 : decide (x152004_1 < ((rd_T70 l0 x11_1).f2)) = true := decide_eq_true c12
        clear c12
        have H' := Aside0.mk H
        clear H
        have p152 : 0 ≤ (x11_1 : Int) := of_decide_eq_true zb11
        have q152 : x11_1 < (l0.length : Int) := of_decide_eq_true zb11
        obtain ⟨ad152, A152_2, c152_2, e152, hx152_0, hx152_1, hx152_2, hx152_3, hx152_4, hl152_2, hi152_2⟩ := at_T70 (Kd.V_reads' HO_9.out).2.2 x11_1 p152 q152
        cases e152
        obtain ⟨ce152, hce152, hMe152, hcc152⟩ := Kd.V_get HO_9.out z70 x11_1 p152 (by first | exact q152 | exact of_decide_eq_true zb11 | (have e_ := (Kd.V_reads' HO_9.out).1; omega))
        obtain ⟨ua152_2, uc152_2, rfl, ul152_2, ge152_2⟩ := k70_openF hMe152
        have hv152_2 := hcc152 2 _ rfl
        rw [add_field _ _ 2 zb37] at hv152_2
        replace hv152_2 := Option.some.inj (hv152_2.symm.trans hx152_2)
        injection hv152_2 with hva_ hvn_ hvc_
        rw [hva_] at ge152_2
        rw [hvc_] at ul152_2
        have HL152_2 := Aside0.mk (show Kd.V k48 48 _ w.heap.size _ _ ((rd_T70 l0 x11_1).f0.f2) from Kd.V_mk ul152_2 ge152_2)
        clear hva_ hvn_ hvc_ ge152_2 ul152_2
        clear hcc152 hce152
        have HR152_2 := Aside0.mk hi152_2
        have HC152_2 := Aside0.mk hl152_2
        clear hi152_2 hl152_2
        replace p152 := eq_true p152
        replace q152 := eq_true q152
        go_wp2_with (first | ((with_reducible refine gate_dst (N := 7) rfl ?_); refine box_event ?hg (N := 7) ?hd (cs := #[.string (⟨#[]⟩ : ByteArray), .string (⟨#[]⟩ : ByteArray), .slice none 0 0, .float .f64 0, .int .i64 0]) (t := 70) ?hr ?_; (case hd => rfl); (case hg => rfl); (case hr => first | (go_simp; done) | (go_simp; rfl)); intro gb153 hg w13 hbox hb; have n0_ := Aside0.mk (Kd.V_below (Kd.V_elderB (by (with_reducible repeat (first | apply Kd.V_alloc | apply Kd.V_drewN | apply Kd.V_drew)); exact HO_9.out) gb153 (Nat.le_of_eq hg.symm)) hb); have n1_ := Aside0.mk (Kd.V_below (Kd.V_elderB (by (with_reducible repeat (first | apply Kd.V_alloc | apply Kd.V_drewN | apply Kd.V_drew)); exact HO_152002.out) gb153 (Nat.le_of_eq hg.symm)) hb); have n2_ := Aside0.mk (Kd.V_below (Kd.V_elderB (by (with_reducible repeat (first | apply Kd.V_alloc | apply Kd.V_drewN | apply Kd.V_drew)); exact HL152_2.out) gb153 (Nat.le_of_eq hg.symm)) hb); have n3_ := Aside0.mk (blk_below (g := gb150) (o := .cells #[.string a1_0, .string a1_1, .slice A1_2 l1_2.length c1_2] 45 (0, 0)) zb6 hb); have n4_ := Aside0.mk (blk_below (g := gb151) (o := .cells #[.string x152000_1, .string x152001_1, u152002, .float .f64 x152003_1, .int .i64 x152004_1] 70 (0, 0)) zb8 hb); have n5_ := Aside0.mk (Kd.C_below zb34 hb); have n6_ := Aside0.mk (below_step zb5 hb); have n7_ := Aside0.mk (hbox); have n8_ := Aside0.mk ((by rw [hg]; exact (below_size zb5) : w.heap.size ≤ gb153)); have n9_ := Aside0.mk ((by rw [hg]; exact (below_size zb5) : w.heap.size ≤ gb153)); have n10_ := Aside0.mk ((by rw [hg]; exact Nat.ne_of_lt (blk_lt (g := gb150) (o := .cells #[.string a1_0, .string a1_1, .slice A1_2 l1_2.length c1_2] 45 (0, 0)) zb6) : gb150 ≠ gb153)); have n11_ := Aside0.mk ((by rw [hg]; exact Nat.ne_of_gt (blk_lt (g := gb150) (o := .cells #[.string a1_0, .string a1_1, .slice A1_2 l1_2.length c1_2] 45 (0, 0)) zb6) : gb153 ≠ gb150)); have n12_ := Aside0.mk ((by rw [hg]; exact Nat.ne_of_lt (blk_lt (g := gb151) (o := .cells #[.string x152000_1, .string x152001_1, u152002, .float .f64 x152003_1, .int .i64 x152004_1] 70 (0, 0)) zb8) : gb151 ≠ gb153)); have n13_ := Aside0.mk ((by rw [hg]; exact Nat.ne_of_gt (blk_lt (g := gb151) (o := .cells #[.string x152000_1, .string x152001_1, u152002, .float .f64 x152003_1, .int .i64 x152004_1] 70 (0, 0)) zb8) : gb153 ≠ gb151)); clear HO_9; clear HO_152002; clear HL152_2; clear BK150; clear BK151; clear HR152_2; clear HB; have HO_9 := n0_; have HO_152002 := n1_; have HL152_2 := n2_; have BK150 := n3_; have BK151 := n4_; have HR152_2 := n5_; have HB := n6_; have BK153 := n7_; have GW153 := n8_; have GE153 := n9_; have NB150_153 := n10_; have NB153_150 := n11_; have NB151_153 := n12_; have NB153_151 := n13_; clear n0_ n1_ n2_ n3_ n4_ n5_ n6_ n7_ n8_ n9_ n10_ n11_ n12_ n13_; clear hb hbox hg; have hnb14 := NB153_150.out; have hnc14 := NB150_153.out; have hnb15 := NB153_151.out; have hnc15 := NB151_153.out; have hcz16_0 : w13.cell? ⟨gb153, 0, none⟩ = some (.string (⟨#[]⟩ : ByteArray)) := (blk_cell BK153.out 0).trans rfl; have hcz16_1 : w13.cell? ⟨gb153, 1, none⟩ = some (.string (⟨#[]⟩ : ByteArray)) := (blk_cell BK153.out 1).trans rfl; have hcz16_2 : w13.cell? ⟨gb153, 2, none⟩ = some (.slice none 0 0) := (blk_cell BK153.out 2).trans rfl; have hcz16_3 : w13.cell? ⟨gb153, 3, none⟩ = some (.float .f64 0) := (blk_cell BK153.out 3).trans rfl; have hcz16_4 : w13.cell? ⟨gb153, 4, none⟩ = some (.int .i64 0) := (blk_cell BK153.out 4).trans rfl; have hfz16_0 := blk_frozen BK153.out 0; have hfz16_1 := blk_frozen BK153.out 1; have hfz16_2 := blk_frozen BK153.out 2; have hfz16_3 := blk_frozen BK153.out 3; have hfz16_4 := blk_frozen BK153.out 4; have hnb17 := NB150_151.out; have hnc17 := NB151_150.out; have hcz18_0 : w13.cell? ⟨gb150, 0, none⟩ = some (.string a1_0) := (blk_cell BK150.out 0).trans rfl; have hcz18_1 : w13.cell? ⟨gb150, 1, none⟩ = some (.string a1_1) := (blk_cell BK150.out 1).trans rfl; have hcz18_2 : w13.cell? ⟨gb150, 2, none⟩ = some (.slice A1_2 l1_2.length c1_2) := (blk_cell BK150.out 2).trans rfl; have hfz18_0 := blk_frozen BK150.out 0; have hfz18_1 := blk_frozen BK150.out 1; have hfz18_2 := blk_frozen BK150.out 2) | ((with_reducible refine gate_callee (f := 42) rfl ?_); refine goesL_ (some 18) rfl rfl Tryd.func42 zb15 rfl #[.agg #[.string ((rd_T70 l0 x11_1).f0.f0), .string ((rd_T70 l0 x11_1).f0.f1), .slice A152_2 ((rd_T70 l0 x11_1).f0.f2).length c152_2], .agg #[.string a1_0, .string a1_1, .slice A1_2 l1_2.length c1_2]] rfl zb1 ?_; (with_reducible refine (media_Fits.calls k1 ((rd_T70 l0 x11_1).f0.f0) ((rd_T70 l0 x11_1).f0.f1) _ _ ((rd_T70 l0 x11_1).f0.f2) a1_0 a1_1 _ _ l1_2 true _ ?side1 ?side2 ?side3 ?side4 A10.out).mono ?_); (case side1 => repeat (first | exact ((Kd.V_reads' zb2).2.2) | (with_reducible refine Kd.C_alloc ?_ _) | (with_reducible refine Kd.C_drewN ?_ _) | (with_reducible refine Kd.C_drew ?_))); (case side2 => exact HC152_2.out); (case side3 => exact Kd.C_below HR1_2.out zb4); (case side4 => exact HC1_2.out); rintro e w19 ⟨rfl, hb⟩; refine ⟨_, rfl, ?_⟩; have n0_ := Aside0.mk (Kd.V_below zb17 hb); have n1_ := Aside0.mk (Kd.V_below zb16 hb); have n2_ := Aside0.mk (Kd.V_below zb2 hb); have n3_ := Aside0.mk (blk_below (g := gb150) (o := .cells #[.string a1_0, .string a1_1, .slice A1_2 l1_2.length c1_2] 45 (0, 0)) zb13 hb); have n4_ := Aside0.mk (blk_below (g := gb151) (o := .cells #[.string x152000_1, .string x152001_1, u152002, .float .f64 x152003_1, .int .i64 x152004_1] 70 (0, 0)) zb12 hb); have n5_ := Aside0.mk (Kd.C_below ((Kd.V_reads' zb2).2.2) hb); have n6_ := Aside0.mk (blk_below (g := gb153) (o := .cells #[.string ((rd_T70 l0 x11_1).f0.f0), .string ((rd_T70 l0 x11_1).f0.f1), .slice A152_2 ((rd_T70 l0 x11_1).f0.f2).length c152_2, .float .f64 ((rd_T70 l0 x11_1).f1), .int .i64 ((rd_T70 l0 x11_1).f2)] 70 (0, 0)) zb7 hb); have n7_ := Aside0.mk (below_step zb4 hb); clear HO_9; clear HO_152002; clear HL152_2; clear BK150; clear BK151; clear HR152_2; clear BK153; clear HB; have HO_9 := n0_; have HO_152002 := n1_; have HL152_2 := n2_; have BK150 := n3_; have BK151 := n4_; have HR152_2 := n5_; have BK153 := n6_; have HB := n7_; clear n0_ n1_ n2_ n3_ n4_ n5_ n6_ n7_; (try clear hb); (try clear hb2); (try clear hk); (try clear hi); have hcz20_0 : w19.cell? ⟨gb153, 0, none⟩ = some (.string ((rd_T70 l0 x11_1).f0.f0)) := (blk_cell BK153.out 0).trans rfl; have hcz20_1 : w19.cell? ⟨gb153, 1, none⟩ = some (.string ((rd_T70 l0 x11_1).f0.f1)) := (blk_cell BK153.out 1).trans rfl; have hcz20_2 : w19.cell? ⟨gb153, 2, none⟩ = some (.slice A152_2 ((rd_T70 l0 x11_1).f0.f2).length c152_2) := (blk_cell BK153.out 2).trans rfl; have hcz20_3 : w19.cell? ⟨gb153, 3, none⟩ = some (.float .f64 ((rd_T70 l0 x11_1).f1)) := (blk_cell BK153.out 3).trans rfl; have hcz20_4 : w19.cell? ⟨gb153, 4, none⟩ = some (.int .i64 ((rd_T70 l0 x11_1).f2)) := (blk_cell BK153.out 4).trans rfl; have hfz20_0 := blk_frozen BK153.out 0; have hfz20_1 := blk_frozen BK153.out 1; have hfz20_2 := blk_frozen BK153.out 2; have hfz20_3 := blk_frozen BK153.out 3; have hfz20_4 := blk_frozen BK153.out 4; have hcz21_0 : w19.cell? ⟨gb151, 0, none⟩ = some (.string x152000_1) := (blk_cell BK151.out 0).trans rfl; have hcz21_1 : w19.cell? ⟨gb151, 1, none⟩ = some (.string x152001_1) := (blk_cell BK151.out 1).trans rfl; have hcz21_2 : w19.cell? ⟨gb151, 2, none⟩ = some (u152002) := (blk_cell BK151.out 2).trans rfl; have hcz21_3 : w19.cell? ⟨gb151, 3, none⟩ = some (.float .f64 x152003_1) := (blk_cell BK151.out 3).trans rfl; have hcz21_4 : w19.cell? ⟨gb151, 4, none⟩ = some (.int .i64 x152004_1) := (blk_cell BK151.out 4).trans rfl; have hfz21_0 := blk_frozen BK151.out 0; have hfz21_1 := blk_frozen BK151.out 1; have hfz21_2 := blk_frozen BK151.out 2; have hfz21_3 := blk_frozen BK151.out 3; have hfz21_4 := blk_frozen BK151.out 4))
        go_roundg k1
        case measure => have := HK1.out; omega
        case rel => exact ⟨(wrap64 (x11_1 + 1)), ((rd_T70 l0 x11_1).f0.f0), ((rd_T70 l0 x11_1).f0.f1), ((rd_T70 l0 x11_1).f0.f2), ((rd_T70 l0 x11_1).f1), ((rd_T70 l0 x11_1).f2), (.slice A152_2 ((rd_T70 l0 x11_1).f0.f2).length c152_2), zb18, H', ⟨by have := HK1.out; omega⟩, ⟨by (with_reducible repeat (first | apply Kd.V_alloc | apply Kd.V_drewN | apply Kd.V_drew)); exact Kd.V_mono (Kd.V_far (p := ⟨gb151, 4, none⟩) (Kd.V_far (p := ⟨gb151, 3, none⟩) (Kd.V_far (p := ⟨gb151, 2, none⟩) (Kd.V_far (p := ⟨gb151, 1, none⟩) (Kd.V_far (p := ⟨gb151, 0, none⟩) (Kd.V_mono HO_9.out (fun k_ hk => (⟨hk, hk.1.2.2⟩ : _ ∧ k_ ≠ gb151))) (fun _ hk => hk.2) (.string ((rd_T70 l0 x11_1).f0.f0))) (fun _ hk => hk.2) (.string ((rd_T70 l0 x11_1).f0.f1))) (fun _ hk => hk.2) (.slice A152_2 ((rd_T70 l0 x11_1).f0.f2).length c152_2)) (fun _ hk => hk.2) (.float .f64 ((rd_T70 l0 x11_1).f1))) (fun _ hk => hk.2) (.int .i64 ((rd_T70 l0 x11_1).f2))) (fun _ hk => ⟨hk.1.1.1, ⟨hk.1.1.2.1, hk.1.1.2.2⟩⟩)⟩, ⟨by (with_reducible repeat (first | apply Kd.V_alloc | apply Kd.V_drewN | apply Kd.V_drew)); exact Kd.V_mono (Kd.V_far (p := ⟨gb151, 4, none⟩) (Kd.V_far (p := ⟨gb151, 3, none⟩) (Kd.V_far (p := ⟨gb151, 2, none⟩) (Kd.V_far (p := ⟨gb151, 1, none⟩) (Kd.V_far (p := ⟨gb151, 0, none⟩) (Kd.V_mono HL152_2.out (fun k_ hk => (⟨hk, hk.1.2.2⟩ : _ ∧ k_ ≠ gb151))) (fun _ hk => hk.2) (.string ((rd_T70 l0 x11_1).f0.f0))) (fun _ hk => hk.2) (.string ((rd_T70 l0 x11_1).f0.f1))) (fun _ hk => hk.2) (.slice A152_2 ((rd_T70 l0 x11_1).f0.f2).length c152_2)) (fun _ hk => hk.2) (.float .f64 ((rd_T70 l0 x11_1).f1))) (fun _ hk => hk.2) (.int .i64 ((rd_T70 l0 x11_1).f2))) (fun _ hk => ⟨hk.1.1.1, ⟨hk.1.1.2.1, hk.1.1.2.2⟩⟩)⟩, ⟨by (with_reducible repeat (first | refine blk_drewN ?_ _ | refine blk_drew ?_ | refine blk_alloc ?_ _)); refine blk_far ?_ NB150_151.out _; (with_reducible repeat (first | refine blk_drewN ?_ _ | refine blk_drew ?_ | refine blk_alloc ?_ _)); refine blk_far ?_ NB150_151.out _; (with_reducible repeat (first | refine blk_drewN ?_ _ | refine blk_drew ?_ | refine blk_alloc ?_ _)); refine blk_far ?_ NB150_151.out _; (with_reducible repeat (first | refine blk_drewN ?_ _ | refine blk_drew ?_ | refine blk_alloc ?_ _)); refine blk_far ?_ NB150_151.out _; (with_reducible repeat (first | refine blk_drewN ?_ _ | refine blk_drew ?_ | refine blk_alloc ?_ _)); refine blk_far ?_ NB150_151.out _; (with_reducible repeat (first | refine blk_drewN ?_ _ | refine blk_drew ?_ | refine blk_alloc ?_ _)); exact BK150.out⟩, ⟨by (with_reducible repeat (first | refine blk_drewN ?_ _ | refine blk_drew ?_ | refine blk_alloc ?_ _)); refine blk_put (cs := #[.string ((rd_T70 l0 x11_1).f0.f0), .string ((rd_T70 l0 x11_1).f0.f1), .slice A152_2 ((rd_T70 l0 x11_1).f0.f2).length c152_2, .float .f64 ((rd_T70 l0 x11_1).f1), .int .i64 x152004_1]) ?_ 4 _ rfl; (with_reducible repeat (first | refine blk_drewN ?_ _ | refine blk_drew ?_ | refine blk_alloc ?_ _)); refine blk_put (cs := #[.string ((rd_T70 l0 x11_1).f0.f0), .string ((rd_T70 l0 x11_1).f0.f1), .slice A152_2 ((rd_T70 l0 x11_1).f0.f2).length c152_2, .float .f64 x152003_1, .int .i64 x152004_1]) ?_ 3 _ rfl; (with_reducible repeat (first | refine blk_drewN ?_ _ | refine blk_drew ?_ | refine blk_alloc ?_ _)); refine blk_put (cs := #[.string ((rd_T70 l0 x11_1).f0.f0), .string ((rd_T70 l0 x11_1).f0.f1), u152002, .float .f64 x152003_1, .int .i64 x152004_1]) ?_ 2 _ rfl; (with_reducible repeat (first | refine blk_drewN ?_ _ | refine blk_drew ?_ | refine blk_alloc ?_ _)); refine blk_put (cs := #[.string ((rd_T70 l0 x11_1).f0.f0), .string x152001_1, u152002, .float .f64 x152003_1, .int .i64 x152004_1]) ?_ 1 _ rfl; (with_reducible repeat (first | refine blk_drewN ?_ _ | refine blk_drew ?_ | refine blk_alloc ?_ _)); refine blk_put (cs := #[.string x152000_1, .string x152001_1, u152002, .float .f64 x152003_1, .int .i64 x152004_1]) ?_ 0 _ rfl; (with_reducible repeat (first | refine blk_drewN ?_ _ | refine blk_drew ?_ | refine blk_alloc ?_ _)); exact BK151.out⟩, ⟨by repeat (first | (with_reducible first | exact HB.out | apply below_alloc | apply pw_below_drewN | apply below_drew1 | refine below_set ?_ GE150.out | refine below_set ?_ GE151.out | refine below_set ?_ GE153.out) | exact HB.out)⟩⟩
       ·rw [if_neg c12] at H
        have c12b0 : decide (x152004_1 < ((rd_T70 l0 x11_1).f2)) = false := decide_eq_false c12
        clear c12
        have H' := Aside0.mk H
        clear H
        have p152 : 0 ≤ (x11_1 : Int) := of_decide_eq_true zb11
        have q152 : x11_1 < (l0.length : Int) := of_decide_eq_true zb11
        obtain ⟨ad152, A152_2, c152_2, e152, hx152_0, hx152_1, hx152_2, hx152_3, hx152_4, hl152_2, hi152_2⟩ := at_T70 (Kd.V_reads' HO_9.out).2.2 x11_1 p152 q152
        cases e152
        obtain ⟨ce152, hce152, hMe152, hcc152⟩ := Kd.V_get HO_9.out z70 x11_1 p152 (by first | exact q152 | exact of_decide_eq_true zb11 | (have e_ := (Kd.V_reads' HO_9.out).1; omega))
        obtain ⟨ua152_2, uc152_2, rfl, ul152_2, ge152_2⟩ := k70_openF hMe152
        have hv152_2 := hcc152 2 _ rfl
        rw [add_field _ _ 2 zb37] at hv152_2
        replace hv152_2 := Option.some.inj (hv152_2.symm.trans hx152_2)
        injection hv152_2 with hva_ hvn_ hvc_
        rw [hva_] at ge152_2
        rw [hvc_] at ul152_2
        have HL152_2 := Aside0.mk (show Kd.V k48 48 _ w.heap.size _ _ ((rd_T70 l0 x11_1).f0.f2) from Kd.V_mk ul152_2 ge152_2)
        clear hva_ hvn_ hvc_ ge152_2 ul152_2
        clear hcc152 hce152
        have HR152_2 := Aside0.mk hi152_2
        have HC152_2 := Aside0.mk hl152_2
        clear hi152_2 hl152_2
        replace p152 := eq_true p152
        replace q152 := eq_true q152
        go_wp2_with (first | ((with_reducible refine gate_dst (N := 7) rfl ?_); refine box_event ?hg (N := 7) ?hd (cs := #[.string (⟨#[]⟩ : ByteArray), .string (⟨#[]⟩ : ByteArray), .slice none 0 0, .float .f64 0, .int .i64 0]) (t := 70) ?hr ?_; (case hd => rfl); (case hg => rfl); (case hr => first | (go_simp; done) | (go_simp; rfl)); intro gb153 hg w22 hbox hb; have n0_ := Aside0.mk (Kd.V_below (Kd.V_elderB (by (with_reducible repeat (first | apply Kd.V_alloc | apply Kd.V_drewN | apply Kd.V_drew)); exact HO_9.out) gb153 (Nat.le_of_eq hg.symm)) hb); have n1_ := Aside0.mk (Kd.V_below (Kd.V_elderB (by (with_reducible repeat (first | apply Kd.V_alloc | apply Kd.V_drewN | apply Kd.V_drew)); exact HO_152002.out) gb153 (Nat.le_of_eq hg.symm)) hb); have n2_ := Aside0.mk (Kd.V_below (Kd.V_elderB (by (with_reducible repeat (first | apply Kd.V_alloc | apply Kd.V_drewN | apply Kd.V_drew)); exact HL152_2.out) gb153 (Nat.le_of_eq hg.symm)) hb); have n3_ := Aside0.mk (blk_below (g := gb150) (o := .cells #[.string a1_0, .string a1_1, .slice A1_2 l1_2.length c1_2] 45 (0, 0)) zb6 hb); have n4_ := Aside0.mk (blk_below (g := gb151) (o := .cells #[.string x152000_1, .string x152001_1, u152002, .float .f64 x152003_1, .int .i64 x152004_1] 70 (0, 0)) zb8 hb); have n5_ := Aside0.mk (Kd.C_below zb34 hb); have n6_ := Aside0.mk (below_step zb5 hb); have n7_ := Aside0.mk (hbox); have n8_ := Aside0.mk ((by rw [hg]; exact (below_size zb5) : w.heap.size ≤ gb153)); have n9_ := Aside0.mk ((by rw [hg]; exact (below_size zb5) : w.heap.size ≤ gb153)); have n10_ := Aside0.mk ((by rw [hg]; exact Nat.ne_of_lt (blk_lt (g := gb150) (o := .cells #[.string a1_0, .string a1_1, .slice A1_2 l1_2.length c1_2] 45 (0, 0)) zb6) : gb150 ≠ gb153)); have n11_ := Aside0.mk ((by rw [hg]; exact Nat.ne_of_gt (blk_lt (g := gb150) (o := .cells #[.string a1_0, .string a1_1, .slice A1_2 l1_2.length c1_2] 45 (0, 0)) zb6) : gb153 ≠ gb150)); have n12_ := Aside0.mk ((by rw [hg]; exact Nat.ne_of_lt (blk_lt (g := gb151) (o := .cells #[.string x152000_1, .string x152001_1, u152002, .float .f64 x152003_1, .int .i64 x152004_1] 70 (0, 0)) zb8) : gb151 ≠ gb153)); have n13_ := Aside0.mk ((by rw [hg]; exact Nat.ne_of_gt (blk_lt (g := gb151) (o := .cells #[.string x152000_1, .string x152001_1, u152002, .float .f64 x152003_1, .int .i64 x152004_1] 70 (0, 0)) zb8) : gb153 ≠ gb151)); clear HO_9; clear HO_152002; clear HL152_2; clear BK150; clear BK151; clear HR152_2; clear HB; have HO_9 := n0_; have HO_152002 := n1_; have HL152_2 := n2_; have BK150 := n3_; have BK151 := n4_; have HR152_2 := n5_; have HB := n6_; have BK153 := n7_; have GW153 := n8_; have GE153 := n9_; have NB150_153 := n10_; have NB153_150 := n11_; have NB151_153 := n12_; have NB153_151 := n13_; clear n0_ n1_ n2_ n3_ n4_ n5_ n6_ n7_ n8_ n9_ n10_ n11_ n12_ n13_; clear hb hbox hg; have hnb23 := NB153_150.out; have hnc23 := NB150_153.out; have hnb24 := NB153_151.out; have hnc24 := NB151_153.out; have hcz25_0 : w22.cell? ⟨gb153, 0, none⟩ = some (.string (⟨#[]⟩ : ByteArray)) := (blk_cell BK153.out 0).trans rfl; have hcz25_1 : w22.cell? ⟨gb153, 1, none⟩ = some (.string (⟨#[]⟩ : ByteArray)) := (blk_cell BK153.out 1).trans rfl; have hcz25_2 : w22.cell? ⟨gb153, 2, none⟩ = some (.slice none 0 0) := (blk_cell BK153.out 2).trans rfl; have hcz25_3 : w22.cell? ⟨gb153, 3, none⟩ = some (.float .f64 0) := (blk_cell BK153.out 3).trans rfl; have hcz25_4 : w22.cell? ⟨gb153, 4, none⟩ = some (.int .i64 0) := (blk_cell BK153.out 4).trans rfl; have hfz25_0 := blk_frozen BK153.out 0; have hfz25_1 := blk_frozen BK153.out 1; have hfz25_2 := blk_frozen BK153.out 2; have hfz25_3 := blk_frozen BK153.out 3; have hfz25_4 := blk_frozen BK153.out 4; have hnb26 := NB150_151.out; have hnc26 := NB151_150.out; have hcz27_0 : w22.cell? ⟨gb150, 0, none⟩ = some (.string a1_0) := (blk_cell BK150.out 0).trans rfl; have hcz27_1 : w22.cell? ⟨gb150, 1, none⟩ = some (.string a1_1) := (blk_cell BK150.out 1).trans rfl; have hcz27_2 : w22.cell? ⟨gb150, 2, none⟩ = some (.slice A1_2 l1_2.length c1_2) := (blk_cell BK150.out 2).trans rfl; have hfz27_0 := blk_frozen BK150.out 0; have hfz27_1 := blk_frozen BK150.out 1; have hfz27_2 := blk_frozen BK150.out 2) | ((with_reducible refine gate_callee (f := 42) rfl ?_); refine goesL_ (some 18) rfl rfl Tryd.func42 zb15 rfl #[.agg #[.string ((rd_T70 l0 x11_1).f0.f0), .string ((rd_T70 l0 x11_1).f0.f1), .slice A152_2 ((rd_T70 l0 x11_1).f0.f2).length c152_2], .agg #[.string a1_0, .string a1_1, .slice A1_2 l1_2.length c1_2]] rfl zb1 ?_; (with_reducible refine (media_Fits.calls k1 ((rd_T70 l0 x11_1).f0.f0) ((rd_T70 l0 x11_1).f0.f1) _ _ ((rd_T70 l0 x11_1).f0.f2) a1_0 a1_1 _ _ l1_2 true _ ?side1 ?side2 ?side3 ?side4 A10.out).mono ?_); (case side1 => repeat (first | exact ((Kd.V_reads' zb2).2.2) | (with_reducible refine Kd.C_alloc ?_ _) | (with_reducible refine Kd.C_drewN ?_ _) | (with_reducible refine Kd.C_drew ?_))); (case side2 => exact HC152_2.out); (case side3 => exact Kd.C_below HR1_2.out zb4); (case side4 => exact HC1_2.out); rintro e w28 ⟨rfl, hb⟩; refine ⟨_, rfl, ?_⟩; have n0_ := Aside0.mk (Kd.V_below zb17 hb); have n1_ := Aside0.mk (Kd.V_below zb16 hb); have n2_ := Aside0.mk (Kd.V_below zb2 hb); have n3_ := Aside0.mk (blk_below (g := gb150) (o := .cells #[.string a1_0, .string a1_1, .slice A1_2 l1_2.length c1_2] 45 (0, 0)) zb13 hb); have n4_ := Aside0.mk (blk_below (g := gb151) (o := .cells #[.string x152000_1, .string x152001_1, u152002, .float .f64 x152003_1, .int .i64 x152004_1] 70 (0, 0)) zb12 hb); have n5_ := Aside0.mk (Kd.C_below ((Kd.V_reads' zb2).2.2) hb); have n6_ := Aside0.mk (blk_below (g := gb153) (o := .cells #[.string ((rd_T70 l0 x11_1).f0.f0), .string ((rd_T70 l0 x11_1).f0.f1), .slice A152_2 ((rd_T70 l0 x11_1).f0.f2).length c152_2, .float .f64 ((rd_T70 l0 x11_1).f1), .int .i64 ((rd_T70 l0 x11_1).f2)] 70 (0, 0)) zb7 hb); have n7_ := Aside0.mk (below_step zb4 hb); clear HO_9; clear HO_152002; clear HL152_2; clear BK150; clear BK151; clear HR152_2; clear BK153; clear HB; have HO_9 := n0_; have HO_152002 := n1_; have HL152_2 := n2_; have BK150 := n3_; have BK151 := n4_; have HR152_2 := n5_; have BK153 := n6_; have HB := n7_; clear n0_ n1_ n2_ n3_ n4_ n5_ n6_ n7_; (try clear hb); (try clear hb2); (try clear hk); (try clear hi); have hcz29_0 : w28.cell? ⟨gb153, 0, none⟩ = some (.string ((rd_T70 l0 x11_1).f0.f0)) := (blk_cell BK153.out 0).trans rfl; have hcz29_1 : w28.cell? ⟨gb153, 1, none⟩ = some (.string ((rd_T70 l0 x11_1).f0.f1)) := (blk_cell BK153.out 1).trans rfl; have hcz29_2 : w28.cell? ⟨gb153, 2, none⟩ = some (.slice A152_2 ((rd_T70 l0 x11_1).f0.f2).length c152_2) := (blk_cell BK153.out 2).trans rfl; have hcz29_3 : w28.cell? ⟨gb153, 3, none⟩ = some (.float .f64 ((rd_T70 l0 x11_1).f1)) := (blk_cell BK153.out 3).trans rfl; have hcz29_4 : w28.cell? ⟨gb153, 4, none⟩ = some (.int .i64 ((rd_T70 l0 x11_1).f2)) := (blk_cell BK153.out 4).trans rfl; have hfz29_0 := blk_frozen BK153.out 0; have hfz29_1 := blk_frozen BK153.out 1; have hfz29_2 := blk_frozen BK153.out 2; have hfz29_3 := blk_frozen BK153.out 3; have hfz29_4 := blk_frozen BK153.out 4; have hcz30_0 : w28.cell? ⟨gb151, 0, none⟩ = some (.string x152000_1) := (blk_cell BK151.out 0).trans rfl; have hcz30_1 : w28.cell? ⟨gb151, 1, none⟩ = some (.string x152001_1) := (blk_cell BK151.out 1).trans rfl; have hcz30_2 : w28.cell? ⟨gb151, 2, none⟩ = some (u152002) := (blk_cell BK151.out 2).trans rfl; have hcz30_3 : w28.cell? ⟨gb151, 3, none⟩ = some (.float .f64 x152003_1) := (blk_cell BK151.out 3).trans rfl; have hcz30_4 : w28.cell? ⟨gb151, 4, none⟩ = some (.int .i64 x152004_1) := (blk_cell BK151.out 4).trans rfl; have hfz30_0 := blk_frozen BK151.out 0; have hfz30_1 := blk_frozen BK151.out 1; have hfz30_2 := blk_frozen BK151.out 2; have hfz30_3 := blk_frozen BK151.out 3; have hfz30_4 := blk_frozen BK151.out 4))
        go_roundg k1
        case measure => have := HK1.out; omega
        case rel => exact ⟨(wrap64 (x11_1 + 1)), (x152000_1), (x152001_1), (x152002_1), (x152003_1), (x152004_1), (u152002), zb18, H', ⟨by have := HK1.out; omega⟩, ⟨by (with_reducible repeat (first | apply Kd.V_alloc | apply Kd.V_drewN | apply Kd.V_drew)); exact Kd.V_mono HO_9.out (fun _ hk => ⟨hk.1.1, ⟨hk.1.2.1, hk.1.2.2⟩⟩)⟩, ⟨by (with_reducible repeat (first | apply Kd.V_alloc | apply Kd.V_drewN | apply Kd.V_drew)); exact Kd.V_mono HO_152002.out (fun _ hk => ⟨hk.1.1, ⟨hk.1.2.1, hk.1.2.2⟩⟩)⟩, ⟨by (with_reducible repeat (first | refine blk_drewN ?_ _ | refine blk_drew ?_ | refine blk_alloc ?_ _)); exact BK150.out⟩, ⟨by (with_reducible repeat (first | refine blk_drewN ?_ _ | refine blk_drew ?_ | refine blk_alloc ?_ _)); exact BK151.out⟩, ⟨by repeat (first | (with_reducible first | exact HB.out | apply below_alloc | apply pw_below_drewN | apply below_drew1 | refine below_set ?_ GE150.out | refine below_set ?_ GE151.out | refine below_set ?_ GE153.out) | exact HB.out)⟩⟩
      ·replace c11 := Bool.eq_false_iff.mpr c11
       subst c11
       replace H : (quality_weight.l0 k1 l0 (l0.length : Int) (wrap64 (x11_1 + 1)) a1_0 a1_1 l1_2 x152000_1 x152001_1 x152002_1 x152003_1 x152004_1) = some r := by rw [if_neg (show ¬ (false = true) by decide)] at H; exact H
       have H' := Aside0.mk H
       clear H
       have p152 : 0 ≤ (x11_1 : Int) := of_decide_eq_true zb11
       have q152 : x11_1 < (l0.length : Int) := of_decide_eq_true zb11
       obtain ⟨ad152, A152_2, c152_2, e152, hx152_0, hx152_1, hx152_2, hx152_3, hx152_4, hl152_2, hi152_2⟩ := at_T70 (Kd.V_reads' HO_9.out).2.2 x11_1 p152 q152
       cases e152
       obtain ⟨ce152, hce152, hMe152, hcc152⟩ := Kd.V_get HO_9.out z70 x11_1 p152 (by first | exact q152 | exact of_decide_eq_true zb11 | (have e_ := (Kd.V_reads' HO_9.out).1; omega))
       obtain ⟨ua152_2, uc152_2, rfl, ul152_2, ge152_2⟩ := k70_openF hMe152
       have hv152_2 := hcc152 2 _ rfl
       rw [add_field _ _ 2 zb37] at hv152_2
       replace hv152_2 := Option.some.inj (hv152_2.symm.trans hx152_2)
       injection hv152_2 with hva_ hvn_ hvc_
       rw [hva_] at ge152_2
       rw [hvc_] at ul152_2
       have HL152_2 := Aside0.mk (show Kd.V k48 48 _ w.heap.size _ _ ((rd_T70 l0 x11_1).f0.f2) from Kd.V_mk ul152_2 ge152_2)
       clear hva_ hvn_ hvc_ ge152_2 ul152_2
       clear hcc152 hce152
       have HR152_2 := Aside0.mk hi152_2
       have HC152_2 := Aside0.mk hl152_2
       clear hi152_2 hl152_2
       replace p152 := eq_true p152
       replace q152 := eq_true q152
       go_wp2_with (first | ((with_reducible refine gate_dst (N := 7) rfl ?_); refine box_event ?hg (N := 7) ?hd (cs := #[.string (⟨#[]⟩ : ByteArray), .string (⟨#[]⟩ : ByteArray), .slice none 0 0, .float .f64 0, .int .i64 0]) (t := 70) ?hr ?_; (case hd => rfl); (case hg => rfl); (case hr => first | (go_simp; done) | (go_simp; rfl)); intro gb153 hg w31 hbox hb; have n0_ := Aside0.mk (Kd.V_below (Kd.V_elderB (by (with_reducible repeat (first | apply Kd.V_alloc | apply Kd.V_drewN | apply Kd.V_drew)); exact HO_9.out) gb153 (Nat.le_of_eq hg.symm)) hb); have n1_ := Aside0.mk (Kd.V_below (Kd.V_elderB (by (with_reducible repeat (first | apply Kd.V_alloc | apply Kd.V_drewN | apply Kd.V_drew)); exact HO_152002.out) gb153 (Nat.le_of_eq hg.symm)) hb); have n2_ := Aside0.mk (Kd.V_below (Kd.V_elderB (by (with_reducible repeat (first | apply Kd.V_alloc | apply Kd.V_drewN | apply Kd.V_drew)); exact HL152_2.out) gb153 (Nat.le_of_eq hg.symm)) hb); have n3_ := Aside0.mk (blk_below (g := gb150) (o := .cells #[.string a1_0, .string a1_1, .slice A1_2 l1_2.length c1_2] 45 (0, 0)) zb6 hb); have n4_ := Aside0.mk (blk_below (g := gb151) (o := .cells #[.string x152000_1, .string x152001_1, u152002, .float .f64 x152003_1, .int .i64 x152004_1] 70 (0, 0)) zb8 hb); have n5_ := Aside0.mk (Kd.C_below zb34 hb); have n6_ := Aside0.mk (below_step zb5 hb); have n7_ := Aside0.mk (hbox); have n8_ := Aside0.mk ((by rw [hg]; exact (below_size zb5) : w.heap.size ≤ gb153)); have n9_ := Aside0.mk ((by rw [hg]; exact (below_size zb5) : w.heap.size ≤ gb153)); have n10_ := Aside0.mk ((by rw [hg]; exact Nat.ne_of_lt (blk_lt (g := gb150) (o := .cells #[.string a1_0, .string a1_1, .slice A1_2 l1_2.length c1_2] 45 (0, 0)) zb6) : gb150 ≠ gb153)); have n11_ := Aside0.mk ((by rw [hg]; exact Nat.ne_of_gt (blk_lt (g := gb150) (o := .cells #[.string a1_0, .string a1_1, .slice A1_2 l1_2.length c1_2] 45 (0, 0)) zb6) : gb153 ≠ gb150)); have n12_ := Aside0.mk ((by rw [hg]; exact Nat.ne_of_lt (blk_lt (g := gb151) (o := .cells #[.string x152000_1, .string x152001_1, u152002, .float .f64 x152003_1, .int .i64 x152004_1] 70 (0, 0)) zb8) : gb151 ≠ gb153)); have n13_ := Aside0.mk ((by rw [hg]; exact Nat.ne_of_gt (blk_lt (g := gb151) (o := .cells #[.string x152000_1, .string x152001_1, u152002, .float .f64 x152003_1, .int .i64 x152004_1] 70 (0, 0)) zb8) : gb153 ≠ gb151)); clear HO_9; clear HO_152002; clear HL152_2; clear BK150; clear BK151; clear HR152_2; clear HB; have HO_9 := n0_; have HO_152002 := n1_; have HL152_2 := n2_; have BK150 := n3_; have BK151 := n4_; have HR152_2 := n5_; have HB := n6_; have BK153 := n7_; have GW153 := n8_; have GE153 := n9_; have NB150_153 := n10_; have NB153_150 := n11_; have NB151_153 := n12_; have NB153_151 := n13_; clear n0_ n1_ n2_ n3_ n4_ n5_ n6_ n7_ n8_ n9_ n10_ n11_ n12_ n13_; clear hb hbox hg; have hnb32 := NB153_150.out; have hnc32 := NB150_153.out; have hnb33 := NB153_151.out; have hnc33 := NB151_153.out; have hcz34_0 : w31.cell? ⟨gb153, 0, none⟩ = some (.string (⟨#[]⟩ : ByteArray)) := (blk_cell BK153.out 0).trans rfl; have hcz34_1 : w31.cell? ⟨gb153, 1, none⟩ = some (.string (⟨#[]⟩ : ByteArray)) := (blk_cell BK153.out 1).trans rfl; have hcz34_2 : w31.cell? ⟨gb153, 2, none⟩ = some (.slice none 0 0) := (blk_cell BK153.out 2).trans rfl; have hcz34_3 : w31.cell? ⟨gb153, 3, none⟩ = some (.float .f64 0) := (blk_cell BK153.out 3).trans rfl; have hcz34_4 : w31.cell? ⟨gb153, 4, none⟩ = some (.int .i64 0) := (blk_cell BK153.out 4).trans rfl; have hfz34_0 := blk_frozen BK153.out 0; have hfz34_1 := blk_frozen BK153.out 1; have hfz34_2 := blk_frozen BK153.out 2; have hfz34_3 := blk_frozen BK153.out 3; have hfz34_4 := blk_frozen BK153.out 4; have hnb35 := NB150_151.out; have hnc35 := NB151_150.out; have hcz36_0 : w31.cell? ⟨gb150, 0, none⟩ = some (.string a1_0) := (blk_cell BK150.out 0).trans rfl; have hcz36_1 : w31.cell? ⟨gb150, 1, none⟩ = some (.string a1_1) := (blk_cell BK150.out 1).trans rfl; have hcz36_2 : w31.cell? ⟨gb150, 2, none⟩ = some (.slice A1_2 l1_2.length c1_2) := (blk_cell BK150.out 2).trans rfl; have hfz36_0 := blk_frozen BK150.out 0; have hfz36_1 := blk_frozen BK150.out 1; have hfz36_2 := blk_frozen BK150.out 2) | ((with_reducible refine gate_callee (f := 42) rfl ?_); refine goesL_ (some 18) rfl rfl Tryd.func42 zb15 rfl #[.agg #[.string ((rd_T70 l0 x11_1).f0.f0), .string ((rd_T70 l0 x11_1).f0.f1), .slice A152_2 ((rd_T70 l0 x11_1).f0.f2).length c152_2], .agg #[.string a1_0, .string a1_1, .slice A1_2 l1_2.length c1_2]] rfl zb1 ?_; (with_reducible refine (media_Fits.calls k1 ((rd_T70 l0 x11_1).f0.f0) ((rd_T70 l0 x11_1).f0.f1) _ _ ((rd_T70 l0 x11_1).f0.f2) a1_0 a1_1 _ _ l1_2 false _ ?side1 ?side2 ?side3 ?side4 A10.out).mono ?_); (case side1 => repeat (first | exact ((Kd.V_reads' zb2).2.2) | (with_reducible refine Kd.C_alloc ?_ _) | (with_reducible refine Kd.C_drewN ?_ _) | (with_reducible refine Kd.C_drew ?_))); (case side2 => exact HC152_2.out); (case side3 => exact Kd.C_below HR1_2.out zb4); (case side4 => exact HC1_2.out); rintro e w37 ⟨rfl, hb⟩; refine ⟨_, rfl, ?_⟩; have n0_ := Aside0.mk (Kd.V_below zb17 hb); have n1_ := Aside0.mk (Kd.V_below zb16 hb); have n2_ := Aside0.mk (Kd.V_below zb2 hb); have n3_ := Aside0.mk (blk_below (g := gb150) (o := .cells #[.string a1_0, .string a1_1, .slice A1_2 l1_2.length c1_2] 45 (0, 0)) zb13 hb); have n4_ := Aside0.mk (blk_below (g := gb151) (o := .cells #[.string x152000_1, .string x152001_1, u152002, .float .f64 x152003_1, .int .i64 x152004_1] 70 (0, 0)) zb12 hb); have n5_ := Aside0.mk (Kd.C_below ((Kd.V_reads' zb2).2.2) hb); have n6_ := Aside0.mk (blk_below (g := gb153) (o := .cells #[.string ((rd_T70 l0 x11_1).f0.f0), .string ((rd_T70 l0 x11_1).f0.f1), .slice A152_2 ((rd_T70 l0 x11_1).f0.f2).length c152_2, .float .f64 ((rd_T70 l0 x11_1).f1), .int .i64 ((rd_T70 l0 x11_1).f2)] 70 (0, 0)) zb7 hb); have n7_ := Aside0.mk (below_step zb4 hb); clear HO_9; clear HO_152002; clear HL152_2; clear BK150; clear BK151; clear HR152_2; clear BK153; clear HB; have HO_9 := n0_; have HO_152002 := n1_; have HL152_2 := n2_; have BK150 := n3_; have BK151 := n4_; have HR152_2 := n5_; have BK153 := n6_; have HB := n7_; clear n0_ n1_ n2_ n3_ n4_ n5_ n6_ n7_; (try clear hb); (try clear hb2); (try clear hk); (try clear hi)))
       go_roundg k1
       case measure => have := HK1.out; omega
       case rel => exact ⟨(wrap64 (x11_1 + 1)), (x152000_1), (x152001_1), (x152002_1), (x152003_1), (x152004_1), (u152002), zb18, H', ⟨by have := HK1.out; omega⟩, ⟨by (with_reducible repeat (first | apply Kd.V_alloc | apply Kd.V_drewN | apply Kd.V_drew)); exact Kd.V_mono HO_9.out (fun _ hk => ⟨hk.1.1, ⟨hk.1.2.1, hk.1.2.2⟩⟩)⟩, ⟨by (with_reducible repeat (first | apply Kd.V_alloc | apply Kd.V_drewN | apply Kd.V_drew)); exact Kd.V_mono HO_152002.out (fun _ hk => ⟨hk.1.1, ⟨hk.1.2.1, hk.1.2.2⟩⟩)⟩, ⟨by (with_reducible repeat (first | refine blk_drewN ?_ _ | refine blk_drew ?_ | refine blk_alloc ?_ _)); exact BK150.out⟩, ⟨by (with_reducible repeat (first | refine blk_drewN ?_ _ | refine blk_drew ?_ | refine blk_alloc ?_ _)); exact BK151.out⟩, ⟨by repeat (first | (with_reducible first | exact HB.out | apply below_alloc | apply pw_below_drewN | apply below_drew1 | refine below_set ?_ GE150.out | refine below_set ?_ GE151.out | refine below_set ?_ GE153.out) | exact HB.out)⟩⟩
     ·rw [if_neg c9] at H
      exact absurd H (by simp)
    ·rw [if_neg c8] at H
     exact absurd H (by simp)
   ·rw [if_neg c7] at H
    have c7b0 : decide (x11_1 < (l0.length : Int)) = false := decide_eq_false c7
    clear c7
    replace H := Option.bind_eq_some_iff.mp H
    obtain ⟨t155, A380, H⟩ := H
    replace H : (some t155) = some r := H
    have A38 := Aside0.mk A380
    clear A380
    obtain rfl := Option.some.inj H
    have hnb39 := NB151_150.out
    have hnc39 := NB150_151.out
    have hcz40_0 : wr.cell? ⟨gb151, 0, none⟩ = some (.string x152000_1) := (blk_cell BK151.out 0).trans rfl
    have hcz40_1 : wr.cell? ⟨gb151, 1, none⟩ = some (.string x152001_1) := (blk_cell BK151.out 1).trans rfl
    have hcz40_2 : wr.cell? ⟨gb151, 2, none⟩ = some (u152002) := (blk_cell BK151.out 2).trans rfl
    have hcz40_3 : wr.cell? ⟨gb151, 3, none⟩ = some (.float .f64 x152003_1) := (blk_cell BK151.out 3).trans rfl
    have hcz40_4 : wr.cell? ⟨gb151, 4, none⟩ = some (.int .i64 x152004_1) := (blk_cell BK151.out 4).trans rfl
    have hfz40_0 := blk_frozen BK151.out 0
    have hfz40_1 := blk_frozen BK151.out 1
    have hfz40_2 := blk_frozen BK151.out 2
    have hfz40_3 := blk_frozen BK151.out 3
    have hfz40_4 := blk_frozen BK151.out 4
    go_wp2_with (first | ((with_reducible refine gate_callee (f := 19) rfl ?_); refine goesL_ (some 30) rfl rfl Tryd.func19 zb15 rfl #[.float .f64 x152003_1] rfl zb1 ?_; (with_reducible refine (quality_Clamp.calls x152003_1 t155 _ A38.out).mono ?_); rintro e w' ⟨rfl, ⟨nd, rfl⟩⟩; refine ⟨_, rfl, ?_⟩))
    go_ret
    exact ⟨zb10, zb5⟩
def quality_Best.l0 : Nat → Int → Nat → List (S70) → List (S45) → Int → Int → Option (Int × Nat)
  | 0, _, _, _, _, _, _ => none
  | k + 1, x4, x5, x6, x12, x13, x14 => if x14 < x13 then (if 0 ≤ x14 then (if x14 < (x12.length : Int) then ((quality_weight.f k x6 ((rd_T45 x12 x14).f0) ((rd_T45 x12 x14).f1) ((rd_T45 x12 x14).f2)).bind fun t161 => (if (FloatKind.f64.format.order t161 x5 == some .gt) = true then (quality_Best.l0 k x14 t161 x6 x12 x13 (wrap64 (x14 + 1))) else (quality_Best.l0 k x4 x5 x6 x12 x13 (wrap64 (x14 + 1))))) else (none)) else (none)) else (some (x4, x5))
def quality_Best.f (k : Nat) (a0 : ByteArray) (l1 : List (S45)) : Option (Int × Nat) := (quality_ranges.f k a0).bind fun t156 => (quality_Best.l0 k (-1) 0 t156 l1 (l1.length : Int) 0)
set_option maxHeartbeats 8000000 in
set_option maxRecDepth 100000 in
theorem quality_Best.calls (k : Nat) (a0 : ByteArray) (A1 : Option Addr) (c1 : Nat) (l1 : List (S45)) (r1 : Int) (r2 : Nat) (w : World) (hr1 : Kd.C k45 w A1 l1.length l1) (hc1 : l1.length ≤ c1) (hG : Glob w) (h : quality_Best.f k a0 l1 = some (r1, r2)) :
  Calls Tryd.prog 12 #[.string a0, .slice A1 l1.length c1] w fun e w' => e = .returned (.tuple #[.int .i64 r1, .float .f64 r2]) ∧ Below w.heap.size w w' := by
 have hu45 := Tryd.underlying45
 have HR1 := Aside0.mk hr1
 have HC1 := Aside0.mk hc1
 clear hr1 hc1
 have HB := Aside0.mk (Below.refl w.heap.size w)
 have hGA := Aside0.mk hG
 clear hG
 have H : ((quality_ranges.f k a0).bind fun t156 => (quality_Best.l0 k (-1) 0 t156 l1 (l1.length : Int) 0)) = some (r1, r2) := h
 clear h
 replace H := Option.bind_eq_some_iff.mp H
 obtain ⟨t156, A30, H⟩ := H
 replace H : (quality_Best.l0 k (-1) 0 t156 l1 (l1.length : Int) 0) = some (r1, r2) := H
 have A3 := Aside0.mk A30
 clear A30
 have H' := Aside0.mk H
 clear H
 go_enter Tryd.func12, Tryd.ntmps12
 go_wp2_with (first | ((with_reducible refine gate_callee (f := 25) rfl ?_); refine goesL_ (some 11) rfl rfl Tryd.func25 zb15 rfl #[.string a0] rfl zb1 ?_; (with_reducible refine (quality_ranges.calls k a0 t156 _ ?side1 A3.out).mono ?_); (case side1 => exact Glob.below hGA.out zb0); rintro e w4 ⟨v157, rfl, ho0, hb⟩; refine ⟨_, rfl, ?_⟩; have n0_ := Aside0.mk (Kd.S_lower ho0 (below_size zb0)); have n1_ := Aside0.mk (below_step zb0 hb); clear HB; have HO158 := n0_; have HB := n1_; clear n0_ n1_; (try clear hb); (try clear hb2); (try clear hk); (try clear hi); (try clear ho0)))
 first | go_loopg [4, 5, 14] k (fun kq v4 v5 v14 w' => ∃ (x4_1 : Int) (x5_1 : Nat) (x14_1 : Int), v4 = .int .i64 x4_1 ∧ v5 = .float .f64 x5_1 ∧ v14 = .int .i64 x14_1 ∧ Aside0 (quality_Best.l0 kq x4_1 x5_1 t156 l1 (l1.length : Int) x14_1 = some (r1, r2)) ∧ Aside0 (kq ≤ k) ∧ Aside0 (Kd.S k70 70 w' w.heap.size (fun _ => True) v157 t156) ∧ Aside0 (Below w.heap.size w w')) | (go_simp; go_loopg [4, 5, 14] k (fun kq v4 v5 v14 w' => ∃ (x4_1 : Int) (x5_1 : Nat) (x14_1 : Int), v4 = .int .i64 x4_1 ∧ v5 = .float .f64 x5_1 ∧ v14 = .int .i64 x14_1 ∧ Aside0 (quality_Best.l0 kq x4_1 x5_1 t156 l1 (l1.length : Int) x14_1 = some (r1, r2)) ∧ Aside0 (kq ≤ k) ∧ Aside0 (Kd.S k70 70 w' w.heap.size (fun _ => True) v157 t156) ∧ Aside0 (Below w.heap.size w w')))
 case atStart => exact ⟨((-1)), (0), (0), zb18, zb18, zb18, H', ⟨Nat.le_refl _⟩, ⟨by (with_reducible repeat (first | apply Kd.S_alloc | apply Kd.S_drewN | apply Kd.S_drew)); exact HO158.out⟩, ⟨by repeat (first | (with_reducible first | exact HB.out | apply below_alloc | apply pw_below_drewN | apply below_drew1) | exact HB.out)⟩⟩
 case round =>
  clear H'
  try clear c1
  try clear c2
  try clear p2
  obtain ⟨x4_1, x5_1, x14_1, rfl, rfl, rfl, HA, HK1, HO_6, HB⟩ := hrel
  cases gk with
  | zero => exact absurd HA.out (by simp [quality_Best.l0])
  | succ k1 =>
   have H := HA.out
   clear HA
   simp only [quality_Best.l0] at H
   by_cases c5 : x14_1 < (l1.length : Int)
   ·rw [if_pos c5] at H
    have c5b0 : decide (x14_1 < (l1.length : Int)) = true := decide_eq_true c5
    clear c5
    by_cases c6 : 0 ≤ x14_1
    ·rw [if_pos c6] at H
     have c6b0 : decide (0 ≤ x14_1) = true := decide_eq_true c6
     clear c6
     by_cases c7 : x14_1 < (l1.length : Int)
     ·rw [if_pos c7] at H
      have c7b0 : decide (x14_1 < (l1.length : Int)) = true := decide_eq_true c7
      clear c7
      replace H := Option.bind_eq_some_iff.mp H
      obtain ⟨t161, A80, H⟩ := H
      replace H : (if (FloatKind.f64.format.order t161 x5_1 == some .gt) = true then (quality_Best.l0 k1 x14_1 t161 t156 l1 (l1.length : Int) (wrap64 (x14_1 + 1))) else (quality_Best.l0 k1 x4_1 x5_1 t156 l1 (l1.length : Int) (wrap64 (x14_1 + 1)))) = some (r1, r2) := H
      have A8 := Aside0.mk A80
      clear A80
      by_cases c9 : (FloatKind.f64.format.order t161 x5_1 == some .gt) = true
      ·rw [if_pos c9] at H
       have c9b0 : (FloatKind.f64.format.order t161 x5_1 == some .gt) = true := c9
       (try (have c9b1 : decide (FloatKind.f64.format.order t161 x5_1 = some .gt) = true := by simpa using c9))
       (try (have c9b2 : (FloatKind.f64.format.order t161 x5_1 == some .gt) = true := by simpa using c9))
       clear c9
       have H' := Aside0.mk H
       clear H
       have p159 : 0 ≤ (x14_1 : Int) := of_decide_eq_true zb11
       have q159 : x14_1 < (l1.length : Int) := of_decide_eq_true zb11
       obtain ⟨ad159, A159_2, c159_2, e159, hx159_0, hx159_1, hx159_2, hl159_2, hi159_2⟩ := at_T45 HR1.out x14_1 p159 q159
       cases e159
       replace hx159_0 := (HB.out.cell (World.block_lt_of_cell? w _ hx159_0)).trans hx159_0
       replace hx159_1 := (HB.out.cell (World.block_lt_of_cell? w _ hx159_1)).trans hx159_1
       replace hx159_2 := (HB.out.cell (World.block_lt_of_cell? w _ hx159_2)).trans hx159_2
       have HR159_2 := Aside0.mk hi159_2
       have HC159_2 := Aside0.mk hl159_2
       clear hi159_2 hl159_2
       replace p159 := eq_true p159
       replace q159 := eq_true q159
       go_wp2_with (first | ((with_reducible refine gate_dst (N := 8) rfl ?_); refine box_event ?hg (N := 8) ?hd (cs := #[.string (⟨#[]⟩ : ByteArray), .string (⟨#[]⟩ : ByteArray), .slice none 0 0]) (t := 45) ?hr ?_; (case hd => rfl); (case hg => rfl); (case hr => first | (go_simp; done) | (go_simp; rfl)); intro gb160 hg w10 hbox hb; have n0_ := Aside0.mk (Kd.S_below zb36 hb); have n1_ := Aside0.mk (below_step zb0 hb); have n2_ := Aside0.mk (hbox); have n3_ := Aside0.mk ((by rw [hg]; exact (below_size zb0) : w.heap.size ≤ gb160)); have n4_ := Aside0.mk ((by rw [hg]; exact (below_size zb0) : w.heap.size ≤ gb160)); clear HO_6; clear HB; have HO_6 := n0_; have HB := n1_; have BK160 := n2_; have GW160 := n3_; have GE160 := n4_; clear n0_ n1_ n2_ n3_ n4_; clear hb hbox hg; have hcz11_0 : w10.cell? ⟨gb160, 0, none⟩ = some (.string (⟨#[]⟩ : ByteArray)) := (blk_cell BK160.out 0).trans rfl; have hcz11_1 : w10.cell? ⟨gb160, 1, none⟩ = some (.string (⟨#[]⟩ : ByteArray)) := (blk_cell BK160.out 1).trans rfl; have hcz11_2 : w10.cell? ⟨gb160, 2, none⟩ = some (.slice none 0 0) := (blk_cell BK160.out 2).trans rfl; have hfz11_0 := blk_frozen BK160.out 0; have hfz11_1 := blk_frozen BK160.out 1; have hfz11_2 := blk_frozen BK160.out 2) | ((with_reducible refine gate_store (t := 45) (p := 8) rfl ?_); refine store_event (t := 45) (p := 8) (v := ?vo_w12) (w1 := (((w10.setCell ⟨gb160, 0, none⟩ (.string ((rd_T45 l1 x14_1).f0))).setCell ⟨gb160, 1, none⟩ (.string ((rd_T45 l1 x14_1).f1))).setCell ⟨gb160, 2, none⟩ (.slice A159_2 ((rd_T45 l1 x14_1).f2).length c159_2))) ?hg ?ho ?hn ?hr ?_; (case ho => rfl); (case hg => rfl); (case hn => rfl); (case hr => first | (go_simp; done) | (go_simp; rfl)); intro w12 hw; have n0_ : Aside0 (Kd.S k70 70 w12 w.heap.size (fun _ => True) v157 t156) := ⟨zb32⟩; have n1_ : Aside0 (w12.heap[gb160]? = some (.cells #[.string ((rd_T45 l1 x14_1).f0), .string ((rd_T45 l1 x14_1).f1), .slice A159_2 ((rd_T45 l1 x14_1).f2).length c159_2] 45 (0, 0))) := ⟨zb28⟩; have n2_ : Aside0 (Below w.heap.size w w12) := ⟨(by rw [hw]; exact zb31)⟩; clear hw; clear HO_6; clear BK160; clear HB; have HO_6 := n0_; have BK160 := n1_; have HB := n2_; clear n0_ n1_ n2_; have hcz13_0 : w12.cell? ⟨gb160, 0, none⟩ = some (.string ((rd_T45 l1 x14_1).f0)) := (blk_cell BK160.out 0).trans rfl; have hcz13_1 : w12.cell? ⟨gb160, 1, none⟩ = some (.string ((rd_T45 l1 x14_1).f1)) := (blk_cell BK160.out 1).trans rfl; have hcz13_2 : w12.cell? ⟨gb160, 2, none⟩ = some (.slice A159_2 ((rd_T45 l1 x14_1).f2).length c159_2) := (blk_cell BK160.out 2).trans rfl; have hfz13_0 := blk_frozen BK160.out 0; have hfz13_1 := blk_frozen BK160.out 1; have hfz13_2 := blk_frozen BK160.out 2; obtain ⟨Ao14, co14, eo14⟩ := Kd.S_slice HO_6.out; subst eo14) | ((with_reducible refine gate_callee (f := 26) rfl ?_); refine goesL_ (some 21) rfl rfl Tryd.func26 zb15 rfl #[.slice Ao14 t156.length co14, .agg #[.string ((rd_T45 l1 x14_1).f0), .string ((rd_T45 l1 x14_1).f1), .slice A159_2 ((rd_T45 l1 x14_1).f2).length c159_2]] rfl zb1 ?_; (with_reducible refine (quality_weight.calls k1 (fun k_ => (True ∧ k_ ≠ gb160)) _ _ t156 ((rd_T45 l1 x14_1).f0) ((rd_T45 l1 x14_1).f1) _ _ ((rd_T45 l1 x14_1).f2) t161 _ ?side1 ?side2 ?side3 A8.out).mono ?_); (case side1 => exact Kd.S_V (Kd.S_types (HO_6.out) BK160.out (by decide))); (case side2 => repeat (first | exact (Kd.C_below HR159_2.out HB.out) | (with_reducible refine Kd.C_alloc ?_ _) | (with_reducible refine Kd.C_drewN ?_ _) | (with_reducible refine Kd.C_drew ?_))); (case side3 => exact HC159_2.out); rintro e w15 ⟨rfl, hb⟩; refine ⟨_, rfl, ?_⟩; have n0_ := Aside0.mk (Kd.S_below zb36 hb); have n1_ := Aside0.mk (blk_below (g := gb160) (o := .cells #[.string ((rd_T45 l1 x14_1).f0), .string ((rd_T45 l1 x14_1).f1), .slice A159_2 ((rd_T45 l1 x14_1).f2).length c159_2] 45 (0, 0)) (by (with_reducible repeat (first | refine blk_drewN ?_ _ | refine blk_drew ?_ | refine blk_alloc ?_ _)); exact BK160.out) hb); have n2_ := Aside0.mk (below_step zb31 hb); clear HO_6; clear BK160; clear HB; have HO_6 := n0_; have BK160 := n1_; have HB := n2_; clear n0_ n1_ n2_; (try clear hb); (try clear hb2); (try clear hk); (try clear hi)))
       go_roundg k1
       case measure => have := HK1.out; omega
       case rel => exact ⟨(x14_1), (t161), (wrap64 (x14_1 + 1)), zb18, zb18, zb18, H', ⟨by have := HK1.out; omega⟩, ⟨by (with_reducible repeat (first | apply Kd.S_alloc | apply Kd.S_drewN | apply Kd.S_drew)); exact HO_6.out⟩, ⟨by repeat (first | (with_reducible first | exact HB.out | apply below_alloc | apply pw_below_drewN | apply below_drew1 | refine below_set ?_ GE160.out) | exact HB.out)⟩⟩
      ·rw [if_neg c9] at H
       have c9b0 : (FloatKind.f64.format.order t161 x5_1 == some .gt) = false := by simpa using c9
       (try (have c9b1 : decide (FloatKind.f64.format.order t161 x5_1 = some .gt) = false := by simpa using c9))
       (try (have c9b2 : (FloatKind.f64.format.order t161 x5_1 == some .gt) = false := by simpa using c9))
       (try (have c9b3 : ¬ (FloatKind.f64.format.order t161 x5_1 = some .gt) := by simpa using c9))
       clear c9
       have H' := Aside0.mk H
       clear H
       have p159 : 0 ≤ (x14_1 : Int) := of_decide_eq_true zb11
       have q159 : x14_1 < (l1.length : Int) := of_decide_eq_true zb11
       obtain ⟨ad159, A159_2, c159_2, e159, hx159_0, hx159_1, hx159_2, hl159_2, hi159_2⟩ := at_T45 HR1.out x14_1 p159 q159
       cases e159
       replace hx159_0 := (HB.out.cell (World.block_lt_of_cell? w _ hx159_0)).trans hx159_0
       replace hx159_1 := (HB.out.cell (World.block_lt_of_cell? w _ hx159_1)).trans hx159_1
       replace hx159_2 := (HB.out.cell (World.block_lt_of_cell? w _ hx159_2)).trans hx159_2
       have HR159_2 := Aside0.mk hi159_2
       have HC159_2 := Aside0.mk hl159_2
       clear hi159_2 hl159_2
       replace p159 := eq_true p159
       replace q159 := eq_true q159
       go_wp2_with (first | ((with_reducible refine gate_dst (N := 8) rfl ?_); refine box_event ?hg (N := 8) ?hd (cs := #[.string (⟨#[]⟩ : ByteArray), .string (⟨#[]⟩ : ByteArray), .slice none 0 0]) (t := 45) ?hr ?_; (case hd => rfl); (case hg => rfl); (case hr => first | (go_simp; done) | (go_simp; rfl)); intro gb160 hg w16 hbox hb; have n0_ := Aside0.mk (Kd.S_below zb36 hb); have n1_ := Aside0.mk (below_step zb0 hb); have n2_ := Aside0.mk (hbox); have n3_ := Aside0.mk ((by rw [hg]; exact (below_size zb0) : w.heap.size ≤ gb160)); have n4_ := Aside0.mk ((by rw [hg]; exact (below_size zb0) : w.heap.size ≤ gb160)); clear HO_6; clear HB; have HO_6 := n0_; have HB := n1_; have BK160 := n2_; have GW160 := n3_; have GE160 := n4_; clear n0_ n1_ n2_ n3_ n4_; clear hb hbox hg; have hcz17_0 : w16.cell? ⟨gb160, 0, none⟩ = some (.string (⟨#[]⟩ : ByteArray)) := (blk_cell BK160.out 0).trans rfl; have hcz17_1 : w16.cell? ⟨gb160, 1, none⟩ = some (.string (⟨#[]⟩ : ByteArray)) := (blk_cell BK160.out 1).trans rfl; have hcz17_2 : w16.cell? ⟨gb160, 2, none⟩ = some (.slice none 0 0) := (blk_cell BK160.out 2).trans rfl; have hfz17_0 := blk_frozen BK160.out 0; have hfz17_1 := blk_frozen BK160.out 1; have hfz17_2 := blk_frozen BK160.out 2) | ((with_reducible refine gate_store (t := 45) (p := 8) rfl ?_); refine store_event (t := 45) (p := 8) (v := ?vo_w18) (w1 := (((w16.setCell ⟨gb160, 0, none⟩ (.string ((rd_T45 l1 x14_1).f0))).setCell ⟨gb160, 1, none⟩ (.string ((rd_T45 l1 x14_1).f1))).setCell ⟨gb160, 2, none⟩ (.slice A159_2 ((rd_T45 l1 x14_1).f2).length c159_2))) ?hg ?ho ?hn ?hr ?_; (case ho => rfl); (case hg => rfl); (case hn => rfl); (case hr => first | (go_simp; done) | (go_simp; rfl)); intro w18 hw; have n0_ : Aside0 (Kd.S k70 70 w18 w.heap.size (fun _ => True) v157 t156) := ⟨zb32⟩; have n1_ : Aside0 (w18.heap[gb160]? = some (.cells #[.string ((rd_T45 l1 x14_1).f0), .string ((rd_T45 l1 x14_1).f1), .slice A159_2 ((rd_T45 l1 x14_1).f2).length c159_2] 45 (0, 0))) := ⟨zb28⟩; have n2_ : Aside0 (Below w.heap.size w w18) := ⟨(by rw [hw]; exact zb31)⟩; clear hw; clear HO_6; clear BK160; clear HB; have HO_6 := n0_; have BK160 := n1_; have HB := n2_; clear n0_ n1_ n2_; have hcz19_0 : w18.cell? ⟨gb160, 0, none⟩ = some (.string ((rd_T45 l1 x14_1).f0)) := (blk_cell BK160.out 0).trans rfl; have hcz19_1 : w18.cell? ⟨gb160, 1, none⟩ = some (.string ((rd_T45 l1 x14_1).f1)) := (blk_cell BK160.out 1).trans rfl; have hcz19_2 : w18.cell? ⟨gb160, 2, none⟩ = some (.slice A159_2 ((rd_T45 l1 x14_1).f2).length c159_2) := (blk_cell BK160.out 2).trans rfl; have hfz19_0 := blk_frozen BK160.out 0; have hfz19_1 := blk_frozen BK160.out 1; have hfz19_2 := blk_frozen BK160.out 2; obtain ⟨Ao20, co20, eo20⟩ := Kd.S_slice HO_6.out; subst eo20) | ((with_reducible refine gate_callee (f := 26) rfl ?_); refine goesL_ (some 21) rfl rfl Tryd.func26 zb15 rfl #[.slice Ao20 t156.length co20, .agg #[.string ((rd_T45 l1 x14_1).f0), .string ((rd_T45 l1 x14_1).f1), .slice A159_2 ((rd_T45 l1 x14_1).f2).length c159_2]] rfl zb1 ?_; (with_reducible refine (quality_weight.calls k1 (fun k_ => (True ∧ k_ ≠ gb160)) _ _ t156 ((rd_T45 l1 x14_1).f0) ((rd_T45 l1 x14_1).f1) _ _ ((rd_T45 l1 x14_1).f2) t161 _ ?side1 ?side2 ?side3 A8.out).mono ?_); (case side1 => exact Kd.S_V (Kd.S_types (HO_6.out) BK160.out (by decide))); (case side2 => repeat (first | exact (Kd.C_below HR159_2.out HB.out) | (with_reducible refine Kd.C_alloc ?_ _) | (with_reducible refine Kd.C_drewN ?_ _) | (with_reducible refine Kd.C_drew ?_))); (case side3 => exact HC159_2.out); rintro e w21 ⟨rfl, hb⟩; refine ⟨_, rfl, ?_⟩; have n0_ := Aside0.mk (Kd.S_below zb36 hb); have n1_ := Aside0.mk (blk_below (g := gb160) (o := .cells #[.string ((rd_T45 l1 x14_1).f0), .string ((rd_T45 l1 x14_1).f1), .slice A159_2 ((rd_T45 l1 x14_1).f2).length c159_2] 45 (0, 0)) (by (with_reducible repeat (first | refine blk_drewN ?_ _ | refine blk_drew ?_ | refine blk_alloc ?_ _)); exact BK160.out) hb); have n2_ := Aside0.mk (below_step zb31 hb); clear HO_6; clear BK160; clear HB; have HO_6 := n0_; have BK160 := n1_; have HB := n2_; clear n0_ n1_ n2_; (try clear hb); (try clear hb2); (try clear hk); (try clear hi)))
       go_roundg k1
       case measure => have := HK1.out; omega
       case rel => exact ⟨(x4_1), (x5_1), (wrap64 (x14_1 + 1)), zb18, zb18, zb18, H', ⟨by have := HK1.out; omega⟩, ⟨by (with_reducible repeat (first | apply Kd.S_alloc | apply Kd.S_drewN | apply Kd.S_drew)); exact HO_6.out⟩, ⟨by repeat (first | (with_reducible first | exact HB.out | apply below_alloc | apply pw_below_drewN | apply below_drew1 | refine below_set ?_ GE160.out) | exact HB.out)⟩⟩
     ·rw [if_neg c7] at H
      exact absurd H (by simp)
    ·rw [if_neg c6] at H
     exact absurd H (by simp)
   ·rw [if_neg c5] at H
    have c5b0 : decide (x14_1 < (l1.length : Int)) = false := decide_eq_false c5
    clear c5
    simp only [Option.some.injEq, Prod.mk.injEq] at H
    obtain ⟨rfl, rfl⟩ := H
    go_wp2
    go_ret2
    exact ⟨zb10, zb0⟩
end Go.Proofs.YtghfbhobpodoeaaDoor.P
/- SpQc -/
namespace Go.Proofs.YtghfbhobpodoeaaDoor.Sp
open Go Go.RowKit Go.Proofs.YtghfbhobpodoeaaDoorW.PrintWords Go.Proofs.YtghfbhobpodoeaaDoorW.PrintLast Go.Proofs.YtghfbhobpodoeaaDoor.O Go.Proofs.YtghfbhobpodoeaaDoor.P
set_option linter.unusedVariables false
set_option linter.unusedSimpArgs false
theorem quoted_vl : ∀ (s : L) (p : L × L), quoted s = some p → p.1.length ≤ s.length
  | [], _, h => by simp [quoted] at h
  | c :: r, p, h => by
    unfold quoted at h
    split at h
    · have := Option.some.inj h; subst this; simp
    · split at h
      · split at h
        · simp at h
        · rename_i d r'
          split at h
          · simp at h
          · obtain ⟨q, hq, rfl⟩ := Option.map_eq_some_iff.1 h
            have := quoted_vl r' q hq
            simp only [List.length_cons]
            omega
      · split at h
        · simp at h
        · obtain ⟨q, hq, rfl⟩ := Option.map_eq_some_iff.1 h
          have := quoted_vl r q hq
          simp only [List.length_cons]
          omega
theorem value_vl (s v r : L) (h : value s = some (v, r)) : v.length ≤ s.length := by
  unfold value at h
  split at h
  · have := quoted_vl _ _ h
    rw [List.length_tail] at this
    simp only at this
    omega
  · split at h
    · simp at h
    · have e := Option.some.inj h
      have := tok_len s
      rw [e] at this
      simp only at this
      omega
def PSm (N : Nat) (l : List (L × L)) : Prop := ∀ p ∈ l, p.1.length ≤ N ∧ p.2.length ≤ N
theorem params_sm (N : Nat) : ∀ (f : Nat) (s : L) (l : List (L × L)), params f s = some l → s.length ≤ N → PSm N l ∧ l.length ≤ s.length := by
  intro f
  induction f with
  | zero => intro s l h; simp [params] at h
  | succ f ih =>
    intro s l h hs
    unfold params at h
    split at h
    · obtain rfl := Option.some.inj h
      exact ⟨fun p hp => by simp at hp, by simp⟩
    · split at h
      · simp at h
      · split at h
        · simp at h
        · split at h
          · simp at h
          · rename_i h1 h2 h3 h4
            have l1 := skip_len s
            have l2 := skip_len (skip s).tail
            have l3 := tok_len (skip (skip s).tail)
            have l4 : (skip s).tail.length + 1 = (skip s).length := by
              cases hk : skip s with
              | nil => exact absurd hk h1
              | cons c r => rfl
            split at h
            · simp at h
            · rename_i v rest hv
              obtain ⟨l', hl', rfl⟩ := Option.map_eq_some_iff.1 h
              have l5 := value_len _ _ _ hv
              have l6 := value_vl _ _ _ hv
              rw [List.length_tail] at l5 l6
              obtain ⟨a, b⟩ := ih rest l' hl' (by omega)
              refine ⟨fun p hp => ?_, by rw [List.length_cons]; omega⟩
              rcases List.mem_cons.1 hp with rfl | hp
              · rw [low_len]
                simp only
                omega
              · exact a p hp
structure MSm (N : Nat) (m : Med) : Prop where
  t : m.t.length ≤ N
  s : m.s.length ≤ N
  n : m.ps.length ≤ N
  p : PSm N m.ps
theorem mparse_sm (N : Nat) (s : L) (m : Med) (h : mparse s = some m) (hs : s.length ≤ N) : MSm N m := by
  unfold mparse at h
  split at h
  · simp at h
  · split at h
    · simp at h
    · split at h
      · simp at h
      · rename_i l hl
        split at h
        · simp at h
        · split at h
          · simp at h
          · obtain rfl := Option.some.inj h
            have l1 := skip_len s
            have l2 := tok_len (skip s)
            have l3 : (tok (skip s)).2.tail.length ≤ (tok (skip s)).2.length := by rw [List.length_tail]; omega
            have l4 := tok_len (tok (skip s)).2.tail
            obtain ⟨a, b⟩ := params_sm N _ _ _ hl (by omega)
            exact ⟨by rw [low_len]; omega, by rw [low_len]; omega, by show l.length ≤ N; omega, a⟩
theorem putQ_mem (cur : L) (out : List L) (x : L) (h : x ∈ putQ cur out) : x ∈ out ∨ x = cur := by
  unfold putQ at h
  split at h
  · exact .inl h
  · rcases List.mem_append.1 h with h | h
    · exact .inl h
    · exact .inr (by simpa using h)
theorem putQ_len (cur : L) (out : List L) : (putQ cur out).length ≤ out.length + 1 := by unfold putQ; split <;> simp
theorem spl_sm : ∀ (n : Nat) (s : L) (q : Bool) (cur : L) (out : List L), s.length ≤ n → (∀ x ∈ splL s q cur out, x ∈ out ∨ x.length ≤ cur.length + s.length) ∧ (splL s q cur out).length ≤ out.length + s.length + 1 := by
  intro n
  induction n with
  | zero =>
    intro s q cur out h
    obtain rfl : s = [] := List.eq_nil_of_length_eq_zero (by omega)
    refine ⟨fun x hx => ?_, by simpa [splL] using putQ_len cur out⟩
    rcases putQ_mem cur out x hx with h | rfl
    · exact .inl h
    · exact .inr (by simp)
  | succ n ih =>
    intro s q cur out h
    cases s with
    | nil =>
      refine ⟨fun x hx => ?_, by simpa [splL] using putQ_len cur out⟩
      rcases putQ_mem cur out x hx with h | rfl
      · exact .inl h
      · exact .inr (by simp)
    | cons c r =>
      rw [List.length_cons] at h
      unfold splL
      split
      · obtain ⟨a, b⟩ := ih r (!q) (cur ++ [c]) out (by omega)
        refine ⟨fun x hx => (a x hx).imp id (fun h => by simp at h ⊢; omega), by simp; omega⟩
      · split
        · cases r with
          | nil =>
            simp only
            refine ⟨fun x hx => ?_, by have := putQ_len (cur ++ [c]) out; simp; omega⟩
            rcases putQ_mem _ out x hx with h | rfl
            · exact .inl h
            · exact .inr (by simp)
          | cons d r' =>
            simp only
            rw [List.length_cons] at h
            obtain ⟨a, b⟩ := ih r' q (cur ++ [c, d]) out (by omega)
            refine ⟨fun x hx => (a x hx).imp id (fun h => by simp at h ⊢; omega), by simp; omega⟩
        · split
          · obtain ⟨a, b⟩ := ih r q [] (putQ cur out) (by omega)
            have := putQ_len cur out
            refine ⟨fun x hx => ?_, by simp; omega⟩
            rcases a x hx with h | h
            · rcases putQ_mem cur out x h with h | rfl
              · exact .inl h
              · exact .inr (by simp)
            · exact .inr (by simp at h ⊢; omega)
          · obtain ⟨a, b⟩ := ih r q (cur ++ [c]) out (by omega)
            refine ⟨fun x hx => (a x hx).imp id (fun h => by simp at h ⊢; omega), by simp; omega⟩
theorem split_sm (s : L) : (∀ x ∈ split s, x.length ≤ s.length) ∧ (split s).length ≤ s.length + 1 := by
  obtain ⟨a, b⟩ := spl_sm s.length s false [] [] (Nat.le_refl _)
  exact ⟨fun x hx => (a x hx).elim (fun h => by simp at h) (fun h => by simpa using h), by simpa [split] using b⟩
theorem rngF (t : L) (k : Nat) (ht : t.length ≤ 1000000) (hk : 5000000 ≤ k) : rngOne k (mk t) = some ((rngL t).map rngB) := by
  unfold rngOne rngL
  obtain ⟨q, hq, hp⟩ := mparseF t k (by omega) (by omega)
  rw [hq]
  simp only [Option.bind_some]
  cases hm : mparse t with
  | none =>
    rw [hm] at hp
    have e : q.2.2.2 = 130 := hp
    rw [if_neg (by rw [e]; decide)]
    rfl
  | some m =>
    rw [hm] at hp
    obtain rfl : q = (mk m.t, mk m.s, pairsB m.ps, 0) := hp
    have hs := mparse_sm 1000000 t m hm ht
    simp only [if_true]
    rw [show (⟨#[113]⟩ : ByteArray) = mk [113] from rfl, paramF _ _ m.ps [113] k (by have := hs.n; omega) (by have := hs.n; omega)]
    simp only [Option.bind_some]
    cases hv : param m.ps [113] with
    | none =>
      simp only [Bool.false_eq_true, if_false, Option.bind_some, Option.map_some]
      rw [narrow_eq]
      simp only [rngB, medB, hv]
    | some v =>
      have hvl : v.length ≤ 1000000 := by
        unfold param at hv
        obtain ⟨p, hp, rfl⟩ := Option.map_eq_some_iff.1 hv
        exact (hs.p p (List.mem_of_find?_eq_some hp)).2
      simp only [if_true]
      rw [weiF v (by omega)]
      simp only [Option.bind_some, Option.map_some]
      rw [narrow_eq]
      simp only [rngB, medB, hv]
theorem rngsF (k : Nat) (hk : 5000000 ≤ k) : ∀ (l : List L) (out : List S70), (∀ x ∈ l, x.length ≤ 1000000) → rngs k (l.map mk) out = some (out ++ (l.filterMap rngL).map rngB) := by
  intro l
  induction l with
  | nil => intro out _; simp [rngs]
  | cons t r ih =>
    intro out h
    rw [List.map_cons, rngs, rngF t k (h t List.mem_cons_self) hk, Option.bind_some]
    have h' : ∀ x ∈ r, x.length ≤ 1000000 := fun x hx => h x (List.mem_cons_of_mem _ hx)
    cases hr : rngL t with
    | none => simp only [Option.map_none]; rw [ih out h', List.filterMap_cons_none hr]
    | some x => simp only [Option.map_some]; rw [ih _ h', List.filterMap_cons_some hr]; simp
theorem rangesF (s : L) (k : Nat) (hs : s.length ≤ 1000000) (hk : 5000000 ≤ k) : quality_ranges.f k (mk s) = some ((rangesL s).map rngB) := by
  unfold quality_ranges.f
  rw [splitF s (by omega), Option.bind_some, List.length_map, if_pos (by have := (split_sm s).2; omega), rngsF k hk _ _ (fun x hx => by have := (split_sm s).1 x hx; omega)]
  rfl
theorem ranges_sm (s : L) : (rangesL s).length ≤ s.length + 1 ∧ ∀ r ∈ rangesL s, MSm s.length r.m := by
  constructor
  · exact Nat.le_trans (List.length_filterMap_le _ _) (split_sm s).2
  · intro r hr
    obtain ⟨t, ht, h⟩ := List.mem_filterMap.1 hr
    obtain ⟨m, hm, rfl⟩ := Option.map_eq_some_iff.1 h
    exact mparse_sm _ t m hm ((split_sm s).1 t ht)
def fitQ (x y : L) : Bool := x == [42] || x == y
def fitP (m : Med) (p : L × L) : Bool := p.1 == [113] || (match param m.ps p.1 with
  | some v => low v == low p.2
  | none => false)
def fitsL (r m : Med) : Bool := fitQ r.t m.t && fitQ r.s m.s && r.ps.all (fitP m)
theorem fits_l0 (r m : Med) (hr : MSm 1000000 r) (hm : MSm 1000000 m) (a b : ByteArray) : ∀ (d k i : Nat), i + d = r.ps.length → d + 2000000 ≤ k →
    media_FitsP.l0 k (pairsB r.ps) ((pairsB r.ps).length : Int) (i : Int) a b (pairsB m.ps) = some ((r.ps.drop i).all (fitP m)) := by
  have hn := hr.n
  have hmn := hm.n
  intro d
  induction d with
  | zero =>
    intro k i hi hk
    obtain ⟨k, rfl⟩ : ∃ m, k = m + 1 := ⟨k - 1, by omega⟩
    rw [media_FitsP.l0, if_neg (by rw [pairsB_len]; omega), List.drop_eq_nil_of_le (by omega)]
    rfl
  | succ d ih =>
    intro k i hi hk
    obtain ⟨k, rfl⟩ : ∃ m, k = m + 1 := ⟨k - 1, by omega⟩
    have hlt : i < r.ps.length := by omega
    have hp := hr.p r.ps[i] (List.getElem_mem hlt)
    rw [media_FitsP.l0, if_pos (by rw [pairsB_len]; omega), if_pos (by omega), if_pos (by rw [pairsB_len]; omega), rdp r.ps i r.ps[i] (List.getElem?_eq_getElem hlt), List.drop_eq_getElem_cons hlt]
    generalize r.ps[i] = p at *
    simp only
    rw [paramF a b m.ps p.1 k (by omega) (by omega), Option.bind_some, tl_mk, w1_ i (by omega)]
    rw [List.all_cons]
    by_cases h : p.1 = [113]
    · rw [if_pos h, ih k (i + 1) (by omega) (by omega)]
      have : fitP m p = true := by unfold fitP; rw [h]; rfl
      rw [this, Bool.true_and]
    · rw [if_neg h]
      have hb : (p.1 == [113]) = false := by simpa using h
      cases hv : param m.ps p.1 with
      | none =>
        simp only [Bool.false_eq_true, if_false]
        have : fitP m p = false := by unfold fitP; rw [hb, hv]; rfl
        rw [this, Bool.false_and]
      | some v =>
        have hvl : v.length ≤ 1000000 := by
          unfold param at hv
          obtain ⟨q, hq, rfl⟩ := Option.map_eq_some_iff.1 hv
          exact (hm.p q (List.mem_of_find?_eq_some hq)).2
        simp only [if_true]
        rw [lowF v (by omega), Option.bind_some, lowF p.2 (by omega), Option.bind_some, tl_mk, tl_mk]
        have hf : fitP m p = (low v == low p.2) := by unfold fitP; rw [hb, hv]; rfl
        by_cases he : low v = low p.2
        · rw [if_pos he, ih k (i + 1) (by omega) (by omega), hf, he]
          simp
        · rw [if_neg he, hf]
          have : (low v == low p.2) = false := by simpa using he
          rw [this]
          rfl
theorem fitB_mk (x y : L) : fitB (mk x) (mk y) = fitQ x y := by unfold fitB fitQ; rw [tl_mk, tl_mk]
theorem fitsF (r m : Med) (k : Nat) (hr : MSm 1000000 r) (hm : MSm 1000000 m) (hk : 3000000 ≤ k) : media_Fits.f k (mk r.t) (mk r.s) (pairsB r.ps) (mk m.t) (mk m.s) (pairsB m.ps) = some (fitsL r m) := by
  unfold media_Fits.f media_FitsP.f fitsL
  rw [fitB_mk, fitB_mk]
  have h0 := fits_l0 r m hr hm (mk m.t) (mk m.s) r.ps.length k 0 (by omega) (by have := hr.n; omega)
  rw [List.drop_zero] at h0
  cases fitQ r.t m.t
  · rfl
  · cases fitQ r.s m.s
    · rfl
    · rw [if_pos rfl, if_pos rfl]
      exact h0
def pickL (m : Med) : List Rng → Nat → Int → Nat
  | [], w, _ => w
  | r :: l, w, n => if fitsL r.m m = true ∧ r.n > n then pickL m l r.w r.n else pickL m l w n
def weightL (l : List Rng) (m : Med) : Nat := clampW (pickL m l 0 (-1))
theorem rdr (l : List Rng) (i : Nat) (r : Rng) (h : l[i]? = some r) : rd_T70 (l.map rngB) (i : Int) = rngB r := by
  unfold rd_T70
  rw [Int.toNat_natCast, List.getD_eq_getElem?_getD, List.getElem?_map, h]
  rfl
theorem weight_l0 (l : List Rng) (m : Med) (hl : l.length ≤ 1000001) (hs : ∀ r ∈ l, MSm 1000000 r.m) (hm : MSm 1000000 m) : ∀ (d k i : Nat) (b0 b1 : ByteArray) (b2 : List S48) (w : Nat) (n : Int), i + d = l.length → d + 4000000 ≤ k →
    quality_weight.l0 k (l.map rngB) ((l.map rngB).length : Int) (i : Int) (mk m.t) (mk m.s) (pairsB m.ps) b0 b1 b2 w n = some (clampW (pickL m (l.drop i) w n)) := by
  intro d
  induction d with
  | zero =>
    intro k i b0 b1 b2 w n hi hk
    obtain ⟨k, rfl⟩ : ∃ m, k = m + 1 := ⟨k - 1, by omega⟩
    rw [quality_weight.l0, if_neg (by rw [List.length_map]; omega), List.drop_eq_nil_of_le (by omega)]
    rfl
  | succ d ih =>
    intro k i b0 b1 b2 w n hi hk
    obtain ⟨k, rfl⟩ : ∃ m, k = m + 1 := ⟨k - 1, by omega⟩
    have hlt : i < l.length := by omega
    have hr := hs l[i] (List.getElem_mem hlt)
    rw [quality_weight.l0, if_pos (by rw [List.length_map]; omega), if_pos (by omega), if_pos (by rw [List.length_map]; omega), rdr l i l[i] (List.getElem?_eq_getElem hlt), List.drop_eq_getElem_cons hlt]
    generalize l[i] = r at *
    show (media_Fits.f k (mk r.m.t) (mk r.m.s) (pairsB r.m.ps) (mk m.t) (mk m.s) (pairsB m.ps)).bind _ = _
    rw [fitsF r.m m k hr hm (by omega), Option.bind_some, w1_ i (by omega), pickL]
    by_cases h : fitsL r.m m = true
    · rw [if_pos h]
      by_cases hn : r.n > n
      · rw [if_pos (show (rngB r).f2 > n from hn), if_pos ⟨h, hn⟩, ih k (i + 1) _ _ _ _ _ (by omega) (by omega)]
        rfl
      · rw [if_neg (show ¬ (rngB r).f2 > n from hn), if_neg (show ¬ (fitsL r.m m = true ∧ r.n > n) from fun x => hn x.2), ih k (i + 1) _ _ _ _ _ (by omega) (by omega)]
    · rw [if_neg h, if_neg (fun x => h x.1), ih k (i + 1) _ _ _ _ _ (by omega) (by omega)]
theorem weightF (l : List Rng) (m : Med) (k : Nat) (hl : l.length ≤ 1000001) (hs : ∀ r ∈ l, MSm 1000000 r.m) (hm : MSm 1000000 m) (hk : 6000000 ≤ k) : quality_weight.f k (l.map rngB) (mk m.t) (mk m.s) (pairsB m.ps) = some (weightL l m) := by
  unfold quality_weight.f weightL
  have := weight_l0 l m hl hs hm l.length k 0 (⟨#[]⟩ : ByteArray) (⟨#[]⟩ : ByteArray) [] 0 (-1) (by omega) (by omega)
  simpa using this
def bestL (l : List Rng) : List Med → Nat → Int → Nat → Int × Nat
  | [], _, a, w => (a, w)
  | m :: h, i, a, w => if (FloatKind.f64.format.order (weightL l m) w == some .gt) = true then bestL l h (i + 1) i (weightL l m) else bestL l h (i + 1) a w
def best (s : L) (h : List Med) : Int × Nat := bestL (rangesL s) h 0 (-1) 0
theorem rdm (l : List Med) (i : Nat) (m : Med) (h : l[i]? = some m) : rd_T45 (l.map medB) (i : Int) = medB m := by
  unfold rd_T45
  rw [Int.toNat_natCast, List.getD_eq_getElem?_getD, List.getElem?_map, h]
  rfl
theorem best_l0 (l : List Rng) (h : List Med) (hl : l.length ≤ 1000001) (hs : ∀ r ∈ l, MSm 1000000 r.m) (hh : ∀ m ∈ h, MSm 1000000 m) (hhl : h.length ≤ 1000000) : ∀ (d k i : Nat) (a : Int) (w : Nat), i + d = h.length → d + 6000000 ≤ k →
    quality_Best.l0 k a w (l.map rngB) (h.map medB) ((h.map medB).length : Int) (i : Int) = some (bestL l (h.drop i) i a w) := by
  intro d
  induction d with
  | zero =>
    intro k i a w hi hk
    obtain ⟨k, rfl⟩ : ∃ m, k = m + 1 := ⟨k - 1, by omega⟩
    rw [quality_Best.l0, if_neg (by rw [List.length_map]; omega), List.drop_eq_nil_of_le (by omega)]
    rfl
  | succ d ih =>
    intro k i a w hi hk
    obtain ⟨k, rfl⟩ : ∃ m, k = m + 1 := ⟨k - 1, by omega⟩
    have hlt : i < h.length := by omega
    have hm := hh h[i] (List.getElem_mem hlt)
    rw [quality_Best.l0, if_pos (by rw [List.length_map]; omega), if_pos (by omega), if_pos (by rw [List.length_map]; omega), rdm h i h[i] (List.getElem?_eq_getElem hlt), List.drop_eq_getElem_cons hlt]
    generalize h[i] = m at *
    show (quality_weight.f k (l.map rngB) (mk m.t) (mk m.s) (pairsB m.ps)).bind _ = _
    rw [weightF l m k hl hs hm (by omega), Option.bind_some, w1_ i (by omega), bestL]
    split
    · rw [ih k (i + 1) _ _ (by omega) (by omega)]
    · rw [ih k (i + 1) _ _ (by omega) (by omega)]
theorem bestF (s : L) (h : List Med) (k : Nat) (hs : s.length ≤ 1000000) (hh : ∀ m ∈ h, MSm 1000000 m) (hhl : h.length ≤ 1000000) (hk : 10000000 ≤ k) : quality_Best.f k (mk s) (h.map medB) = some (best s h) := by
  unfold quality_Best.f
  rw [rangesF s k hs (by omega), Option.bind_some]
  obtain ⟨a, b⟩ := ranges_sm s
  have hb : ∀ r ∈ rangesL s, MSm 1000000 r.m := fun r hr => by
    obtain ⟨c1, c2, c3, c4⟩ := b r hr
    exact ⟨by omega, by omega, by omega, fun p hp => by have := c4 p hp; omega⟩
  have := best_l0 (rangesL s) h (by omega) hb hh hhl h.length k 0 (-1) 0 (by omega) (by omega)
  simpa [best] using this
end Go.Proofs.YtghfbhobpodoeaaDoor.Sp
/- Px13 -/
namespace Go.Proofs.YtghfbhobpodoeaaDoor.P
open Go.Proofs.YtghfbhobpodoeaaDoor.B
open Go.RowKit Go.Proofs.YtghfbhobpodoeaaDoorW.PrintWords Go.Proofs.YtghfbhobpodoeaaDoorW.PrintLast Go.Proofs.YtghfbhobpodoeaaDoorW.PrintMore
attribute [local go_sem] run_store_float str_leq str_gtr str_geq max2_int min2_int max_two min_two max_three min_three max_four min_four
set_option linter.unusedVariables false
set_option linter.unusedSimpArgs false
def broadsheetlaw14_have.f  : Option ((List (S45))) := some (([(⟨(⟨#[116, 101, 120, 116]⟩ : ByteArray), (⟨#[112, 108, 97, 105, 110]⟩ : ByteArray), ([] : List (S48))⟩ : S45), (⟨(⟨#[116, 101, 120, 116]⟩ : ByteArray), (⟨#[104, 116, 109, 108]⟩ : ByteArray), ([] : List (S48))⟩ : S45), (⟨(⟨#[105, 109, 97, 103, 101]⟩ : ByteArray), (⟨#[112, 110, 103]⟩ : ByteArray), ([] : List (S48))⟩ : S45), (⟨(⟨#[97, 112, 112, 108, 105, 99, 97, 116, 105, 111, 110]⟩ : ByteArray), (⟨#[97, 116, 111, 109, 43, 120, 109, 108]⟩ : ByteArray), (([(⟨(⟨#[116, 121, 112, 101]⟩ : ByteArray), (⟨#[101, 110, 116, 114, 121]⟩ : ByteArray)⟩ : S48)] : List (S48)))⟩ : S45)] : List (S45)))
set_option maxHeartbeats 8000000 in
set_option maxRecDepth 100000 in
theorem broadsheetlaw14_have.calls  (r : List (S45)) (w : World) (h : broadsheetlaw14_have.f  = some r) :
  Calls Tryd.prog 13 #[] w fun e w' => ∃ v0_ : Value, e = .returned (v0_) ∧ Kd.N k45 45 w' w.heap.size (fun k_ => (w.heap.size ≤ k_)) v0_ r ∧ Below w.heap.size w w' := by
 have hu45 := Tryd.underlying45
 have hu48 := Tryd.underlying48
 have HB := Aside0.mk (Below.refl w.heap.size w)
 have H : (some (([(⟨(⟨#[116, 101, 120, 116]⟩ : ByteArray), (⟨#[112, 108, 97, 105, 110]⟩ : ByteArray), ([] : List (S48))⟩ : S45), (⟨(⟨#[116, 101, 120, 116]⟩ : ByteArray), (⟨#[104, 116, 109, 108]⟩ : ByteArray), ([] : List (S48))⟩ : S45), (⟨(⟨#[105, 109, 97, 103, 101]⟩ : ByteArray), (⟨#[112, 110, 103]⟩ : ByteArray), ([] : List (S48))⟩ : S45), (⟨(⟨#[97, 112, 112, 108, 105, 99, 97, 116, 105, 111, 110]⟩ : ByteArray), (⟨#[97, 116, 111, 109, 43, 120, 109, 108]⟩ : ByteArray), (([(⟨(⟨#[116, 121, 112, 101]⟩ : ByteArray), (⟨#[101, 110, 116, 114, 121]⟩ : ByteArray)⟩ : S48)] : List (S48)))⟩ : S45)] : List (S45)))) = some r := h
 clear h
 obtain ⟨y162, hy162⟩ : ∃ y_ : List (S48), y_ = (([(⟨(⟨#[116, 121, 112, 101]⟩ : ByteArray), (⟨#[101, 110, 116, 114, 121]⟩ : ByteArray)⟩ : S48)] : List (S48))) := ⟨_, rfl⟩
 replace H : (some (([(⟨(⟨#[116, 101, 120, 116]⟩ : ByteArray), (⟨#[112, 108, 97, 105, 110]⟩ : ByteArray), ([] : List (S48))⟩ : S45), (⟨(⟨#[116, 101, 120, 116]⟩ : ByteArray), (⟨#[104, 116, 109, 108]⟩ : ByteArray), ([] : List (S48))⟩ : S45), (⟨(⟨#[105, 109, 97, 103, 101]⟩ : ByteArray), (⟨#[112, 110, 103]⟩ : ByteArray), ([] : List (S48))⟩ : S45), (⟨(⟨#[97, 112, 112, 108, 105, 99, 97, 116, 105, 111, 110]⟩ : ByteArray), (⟨#[97, 116, 111, 109, 43, 120, 109, 108]⟩ : ByteArray), y162⟩ : S45)] : List (S45)))) = some r := by first | (rw [hy162]; with_reducible exact H) | (have H2_ := (Option.bind_some _ _).symm.trans H; rw [hy162]; with_reducible exact H2_) | (have H2_ := (Option.bind_some _ _).symm.trans H; with_reducible exact H2_) | with_reducible exact H | (rw [hy162]; exact H) | exact H
 have Ny162 := Aside0.mk hy162
 clear hy162
 obtain ⟨y165, hy165⟩ : ∃ y_ : List (S45), y_ = (([(⟨(⟨#[116, 101, 120, 116]⟩ : ByteArray), (⟨#[112, 108, 97, 105, 110]⟩ : ByteArray), ([] : List (S48))⟩ : S45), (⟨(⟨#[116, 101, 120, 116]⟩ : ByteArray), (⟨#[104, 116, 109, 108]⟩ : ByteArray), ([] : List (S48))⟩ : S45), (⟨(⟨#[105, 109, 97, 103, 101]⟩ : ByteArray), (⟨#[112, 110, 103]⟩ : ByteArray), ([] : List (S48))⟩ : S45), (⟨(⟨#[97, 112, 112, 108, 105, 99, 97, 116, 105, 111, 110]⟩ : ByteArray), (⟨#[97, 116, 111, 109, 43, 120, 109, 108]⟩ : ByteArray), y162⟩ : S45)] : List (S45))) := ⟨_, rfl⟩
 replace H : (some y165) = some r := by first | (rw [hy165]; with_reducible exact H) | (have H2_ := (Option.bind_some _ _).symm.trans H; rw [hy165]; with_reducible exact H2_) | (have H2_ := (Option.bind_some _ _).symm.trans H; with_reducible exact H2_) | with_reducible exact H | (rw [hy165]; exact H) | exact H
 have Ny165 := Aside0.mk hy165
 clear hy165
 obtain rfl := Option.some.inj H
 go_enter Tryd.func13, Tryd.ntmps13
 go_wp2_with (first | ((with_reducible refine gate_dst (N := 5) rfl ?_); refine Kd.R_lit k48 _ 48 ?hg (N := 5) ?hd (xs := ([(⟨(⟨#[116, 121, 112, 101]⟩ : ByteArray), (⟨#[101, 110, 116, 114, 121]⟩ : ByteArray)⟩ : S48)] : List (S48))) (inner := [.string (⟨#[116, 121, 112, 101]⟩ : ByteArray), .string (⟨#[101, 110, 116, 114, 121]⟩ : ByteArray)]) (ok := fun _ => True) (okp := fun _ => True) ?hr ?hp (fun _ hk => hk) trivial (Below.refl _ _) (Nat.le_refl _) (by simp) ?_; (case hd => rfl); (case hg => rfl); (case hr => first | (go_simp; done) | (go_simp; rfl)); (case hp => exact (Reps.c2 (show Kd.M k48 _ _ _ (⟨(⟨#[116, 121, 112, 101]⟩ : ByteArray), (⟨#[101, 110, 116, 114, 121]⟩ : ByteArray)⟩ : S48) [.string (⟨#[116, 121, 112, 101]⟩ : ByteArray), .string (⟨#[101, 110, 116, 114, 121]⟩ : ByteArray)] from (k48_mkM _ _ _ (⟨(⟨#[116, 121, 112, 101]⟩ : ByteArray), (⟨#[101, 110, 116, 114, 121]⟩ : ByteArray)⟩ : S48) )) (Reps.none _ _))); intro v163 w1 ho2 hb hg_ hnew_; clear hg_ hnew_; (first | rw [← Ny162.out] at ho2 | (simp only [Int.reduceToNat] at ho2; rw [← Ny162.out] at ho2)); have n0_ := Aside0.mk (Kd.R_lower (Kd.R_newM (M := fun k_ => (w.heap.size ≤ k_)) ho2 (below_size zb0) (fun k_ h_ => h_)) (below_size zb0)); have n1_ := Aside0.mk (below_step zb0 hb); clear HB; have HO164 := n0_; have HB := n1_; clear n0_ n1_; clear hb ho2; obtain ⟨Ao3, co3, eo3⟩ := Kd.R_slice HO164.out; subst eo3) | ((with_reducible refine gate_dst (N := 7) rfl ?_); refine Kd.N_lit k45 _ 45 ?hg (N' := 7) ?hd (xs := ([(⟨(⟨#[116, 101, 120, 116]⟩ : ByteArray), (⟨#[112, 108, 97, 105, 110]⟩ : ByteArray), ([] : List (S48))⟩ : S45), (⟨(⟨#[116, 101, 120, 116]⟩ : ByteArray), (⟨#[104, 116, 109, 108]⟩ : ByteArray), ([] : List (S48))⟩ : S45), (⟨(⟨#[105, 109, 97, 103, 101]⟩ : ByteArray), (⟨#[112, 110, 103]⟩ : ByteArray), ([] : List (S48))⟩ : S45), (⟨(⟨#[97, 112, 112, 108, 105, 99, 97, 116, 105, 111, 110]⟩ : ByteArray), (⟨#[97, 116, 111, 109, 43, 120, 109, 108]⟩ : ByteArray), y162⟩ : S45)] : List (S45))) (inner := [.string (⟨#[116, 101, 120, 116]⟩ : ByteArray), .string (⟨#[112, 108, 97, 105, 110]⟩ : ByteArray), .slice none 0 0, .string (⟨#[116, 101, 120, 116]⟩ : ByteArray), .string (⟨#[104, 116, 109, 108]⟩ : ByteArray), .slice none 0 0, .string (⟨#[105, 109, 97, 103, 101]⟩ : ByteArray), .string (⟨#[112, 110, 103]⟩ : ByteArray), .slice none 0 0, .string (⟨#[97, 112, 112, 108, 105, 99, 97, 116, 105, 111, 110]⟩ : ByteArray), .string (⟨#[97, 116, 111, 109, 43, 120, 109, 108]⟩ : ByteArray), .slice Ao3 y162.length co3]) (ok := (fun k_ => (w.heap.size ≤ k_))) (okp := (fun k_ => (w.heap.size ≤ k_))) ?hr ?hp (fun _ hk => hk) ((show ∀ k_, w1.heap.size ≤ k_ → (fun k_ => (w.heap.size ≤ k_)) k_ from fun k_ hk => (Nat.le_trans (below_size zb0) hk)) _ (Nat.le_refl _)) (Below.refl _ _) (Nat.le_refl _) (by simp) ?_; (case hd => rfl); (case hg => rfl); (case hr => first | (go_simp; done) | (go_simp; rfl)); (case hp => exact (Reps.c3 (show Kd.FK k45 _ _ (⟨(⟨#[116, 101, 120, 116]⟩ : ByteArray), (⟨#[112, 108, 97, 105, 110]⟩ : ByteArray), ([] : List (S48))⟩ : S45) [.string (⟨#[116, 101, 120, 116]⟩ : ByteArray), .string (⟨#[112, 108, 97, 105, 110]⟩ : ByteArray), .slice none 0 0] from (k45_mkF _ _ (⟨(⟨#[116, 101, 120, 116]⟩ : ByteArray), (⟨#[112, 108, 97, 105, 110]⟩ : ByteArray), ([] : List (S48))⟩ : S45) (Nat.le_refl _) (Kd.F_nil _ _ _))) (Reps.c3 (show Kd.FK k45 _ _ (⟨(⟨#[116, 101, 120, 116]⟩ : ByteArray), (⟨#[104, 116, 109, 108]⟩ : ByteArray), ([] : List (S48))⟩ : S45) [.string (⟨#[116, 101, 120, 116]⟩ : ByteArray), .string (⟨#[104, 116, 109, 108]⟩ : ByteArray), .slice none 0 0] from (k45_mkF _ _ (⟨(⟨#[116, 101, 120, 116]⟩ : ByteArray), (⟨#[104, 116, 109, 108]⟩ : ByteArray), ([] : List (S48))⟩ : S45) (Nat.le_refl _) (Kd.F_nil _ _ _))) (Reps.c3 (show Kd.FK k45 _ _ (⟨(⟨#[105, 109, 97, 103, 101]⟩ : ByteArray), (⟨#[112, 110, 103]⟩ : ByteArray), ([] : List (S48))⟩ : S45) [.string (⟨#[105, 109, 97, 103, 101]⟩ : ByteArray), .string (⟨#[112, 110, 103]⟩ : ByteArray), .slice none 0 0] from (k45_mkF _ _ (⟨(⟨#[105, 109, 97, 103, 101]⟩ : ByteArray), (⟨#[112, 110, 103]⟩ : ByteArray), ([] : List (S48))⟩ : S45) (Nat.le_refl _) (Kd.F_nil _ _ _))) (Reps.c3 (show Kd.FK k45 _ _ (⟨(⟨#[97, 112, 112, 108, 105, 99, 97, 116, 105, 111, 110]⟩ : ByteArray), (⟨#[97, 116, 111, 109, 43, 120, 109, 108]⟩ : ByteArray), y162⟩ : S45) [.string (⟨#[97, 112, 112, 108, 105, 99, 97, 116, 105, 111, 110]⟩ : ByteArray), .string (⟨#[97, 116, 111, 109, 43, 120, 109, 108]⟩ : ByteArray), .slice Ao3 y162.length co3] from (k45_mkF _ _ (⟨(⟨#[97, 112, 112, 108, 105, 99, 97, 116, 105, 111, 110]⟩ : ByteArray), (⟨#[97, 116, 111, 109, 43, 120, 109, 108]⟩ : ByteArray), y162⟩ : S45) (Kd.R_reads' (Kd.R_mono (ok' := (fun k_ => (w.heap.size ≤ k_))) (HO164.out) (fun k_ hk => hk.1))).2.1 (Kd.R_F (Kd.R_mono (ok' := (fun k_ => (w.heap.size ≤ k_))) (HO164.out) (fun k_ hk => hk.1))))) (Reps.none _ _)))))); intro v166 w4 ho5 hb hg_ hnew_; clear hg_ hnew_; (first | rw [← Ny165.out] at ho5 | (simp only [Int.reduceToNat] at ho5; rw [← Ny165.out] at ho5)); have n0_ := Aside0.mk (Kd.N_lower ho5 (below_size zb0)); have n1_ := Aside0.mk (below_step zb0 hb); clear HB; clear HO164; have HO167 := n0_; have HB := n1_; clear n0_ n1_; clear hb ho5))
 go_ret
 exact ⟨_, by first | rfl | (simp [errW_none, errW_some, bne_nil_] <;> rfl) | (simp [*, errW_none, errW_some] <;> rfl), by (with_reducible repeat (first | apply Kd.N_alloc | apply Kd.N_drewN | apply Kd.N_drew)); exact HO167.out, zb0⟩
end Go.Proofs.YtghfbhobpodoeaaDoor.P
/- Px14 -/
namespace Go.Proofs.YtghfbhobpodoeaaDoor.P
open Go.Proofs.YtghfbhobpodoeaaDoor.B
open Go.RowKit Go.Proofs.YtghfbhobpodoeaaDoorW.PrintWords Go.Proofs.YtghfbhobpodoeaaDoorW.PrintLast Go.Proofs.YtghfbhobpodoeaaDoorW.PrintMore
attribute [local go_sem] run_store_float str_leq str_gtr str_geq max2_int min2_int max_two min_two max_three min_three max_four min_four
set_option linter.unusedVariables false
set_option linter.unusedSimpArgs false
open Go.Proofs.YtghfbhobpodoeaaDoor.O
def broadsheetlaw14_awake.f (k : Nat)  : Option (Bool) := (broadsheetlaw14_have.f).bind fun t168 => (if 2 ≤ (t168.length : Int) then ((quality_Best.f k (⟨#[116, 101, 120, 116, 47, 42, 59, 113, 61, 48, 46, 53, 44, 32, 116, 101, 120, 116, 47, 104, 116, 109, 108, 44, 32, 42, 47, 42, 59, 113, 61, 48, 46, 49]⟩ : ByteArray) (t168.take 2)).bind fun bt176 => ((quality_Weight.f (⟨#[49, 46, 53]⟩ : ByteArray)).bind fun t178 => (if bt176.1 = 1 then (if (FloatKind.f64.format.order bt176.2 4607182418800017408 == some .eq) = true then (if (FloatKind.f64.format.order t178 t178 != some .eq) = true then ((quality_Weight.f (⟨#[48, 46, 53]⟩ : ByteArray)).bind fun t179 => (if (FloatKind.f64.format.order t179 4602678819172646912 == some .eq) = true then ((quality_Clamp.f t178).bind fun t180 => (some (FloatKind.f64.format.order t180 0 == some .eq))) else (some false))) else (some false)) else (some false)) else (some false)))) else (none))
set_option maxHeartbeats 8000000 in
set_option maxRecDepth 100000 in
theorem broadsheetlaw14_awake.calls (k : Nat)  (r : Bool) (w : World) (hG : Glob w) (h : broadsheetlaw14_awake.f k  = some r) :
  Calls Tryd.prog 8 #[] w fun e w' => e = .returned (.bool r) ∧ Below w.heap.size w w' := by
 have HB := Aside0.mk (Below.refl w.heap.size w)
 have hGA := Aside0.mk hG
 clear hG
 have H : ((broadsheetlaw14_have.f).bind fun t168 => (if 2 ≤ (t168.length : Int) then ((quality_Best.f k (⟨#[116, 101, 120, 116, 47, 42, 59, 113, 61, 48, 46, 53, 44, 32, 116, 101, 120, 116, 47, 104, 116, 109, 108, 44, 32, 42, 47, 42, 59, 113, 61, 48, 46, 49]⟩ : ByteArray) (t168.take 2)).bind fun bt176 => ((quality_Weight.f (⟨#[49, 46, 53]⟩ : ByteArray)).bind fun t178 => (if bt176.1 = 1 then (if (FloatKind.f64.format.order bt176.2 4607182418800017408 == some .eq) = true then (if (FloatKind.f64.format.order t178 t178 != some .eq) = true then ((quality_Weight.f (⟨#[48, 46, 53]⟩ : ByteArray)).bind fun t179 => (if (FloatKind.f64.format.order t179 4602678819172646912 == some .eq) = true then ((quality_Clamp.f t178).bind fun t180 => (some (FloatKind.f64.format.order t180 0 == some .eq))) else (some false))) else (some false)) else (some false)) else (some false)))) else (none))) = some r := h
 clear h
 replace H := Option.bind_eq_some_iff.mp H
 obtain ⟨t168, A10, H⟩ := H
 replace H : (if 2 ≤ (t168.length : Int) then ((quality_Best.f k (⟨#[116, 101, 120, 116, 47, 42, 59, 113, 61, 48, 46, 53, 44, 32, 116, 101, 120, 116, 47, 104, 116, 109, 108, 44, 32, 42, 47, 42, 59, 113, 61, 48, 46, 49]⟩ : ByteArray) (t168.take 2)).bind fun bt176 => ((quality_Weight.f (⟨#[49, 46, 53]⟩ : ByteArray)).bind fun t178 => (if bt176.1 = 1 then (if (FloatKind.f64.format.order bt176.2 4607182418800017408 == some .eq) = true then (if (FloatKind.f64.format.order t178 t178 != some .eq) = true then ((quality_Weight.f (⟨#[48, 46, 53]⟩ : ByteArray)).bind fun t179 => (if (FloatKind.f64.format.order t179 4602678819172646912 == some .eq) = true then ((quality_Clamp.f t178).bind fun t180 => (some (FloatKind.f64.format.order t180 0 == some .eq))) else (some false))) else (some false)) else (some false)) else (some false)))) else (none)) = some r := H
 have A1 := Aside0.mk A10
 clear A10
 by_cases c2 : 2 ≤ (t168.length : Int)
 ·rw [if_pos c2] at H
  have c2b0 := eq_true c2
  have c2b1 : decide (2 ≤ (t168.length : Int)) = true := decide_eq_true c2
  clear c2
  obtain ⟨y171, hy171⟩ : ∃ y_ : List (S45), y_ = (t168.take 2) := ⟨_, rfl⟩
  replace H : ((quality_Best.f k (⟨#[116, 101, 120, 116, 47, 42, 59, 113, 61, 48, 46, 53, 44, 32, 116, 101, 120, 116, 47, 104, 116, 109, 108, 44, 32, 42, 47, 42, 59, 113, 61, 48, 46, 49]⟩ : ByteArray) y171).bind fun bt176 => ((quality_Weight.f (⟨#[49, 46, 53]⟩ : ByteArray)).bind fun t178 => (if bt176.1 = 1 then (if (FloatKind.f64.format.order bt176.2 4607182418800017408 == some .eq) = true then (if (FloatKind.f64.format.order t178 t178 != some .eq) = true then ((quality_Weight.f (⟨#[48, 46, 53]⟩ : ByteArray)).bind fun t179 => (if (FloatKind.f64.format.order t179 4602678819172646912 == some .eq) = true then ((quality_Clamp.f t178).bind fun t180 => (some (FloatKind.f64.format.order t180 0 == some .eq))) else (some false))) else (some false)) else (some false)) else (some false)))) = some r := by first | (rw [hy171]; with_reducible exact H) | (have H2_ := (Option.bind_some _ _).symm.trans H; rw [hy171]; with_reducible exact H2_) | (have H2_ := (Option.bind_some _ _).symm.trans H; with_reducible exact H2_) | with_reducible exact H | (rw [hy171]; exact H) | exact H
  have Ny171 := Aside0.mk hy171
  clear hy171
  replace H := Option.bind_eq_some_iff.mp H
  obtain ⟨⟨t176, t177⟩, A30, H⟩ := H
  replace H : ((quality_Weight.f (⟨#[49, 46, 53]⟩ : ByteArray)).bind fun t178 => (if t176 = 1 then (if (FloatKind.f64.format.order t177 4607182418800017408 == some .eq) = true then (if (FloatKind.f64.format.order t178 t178 != some .eq) = true then ((quality_Weight.f (⟨#[48, 46, 53]⟩ : ByteArray)).bind fun t179 => (if (FloatKind.f64.format.order t179 4602678819172646912 == some .eq) = true then ((quality_Clamp.f t178).bind fun t180 => (some (FloatKind.f64.format.order t180 0 == some .eq))) else (some false))) else (some false)) else (some false)) else (some false))) = some r := H
  have A3 := Aside0.mk A30
  clear A30
  replace H := Option.bind_eq_some_iff.mp H
  obtain ⟨t178, A40, H⟩ := H
  replace H : (if t176 = 1 then (if (FloatKind.f64.format.order t177 4607182418800017408 == some .eq) = true then (if (FloatKind.f64.format.order t178 t178 != some .eq) = true then ((quality_Weight.f (⟨#[48, 46, 53]⟩ : ByteArray)).bind fun t179 => (if (FloatKind.f64.format.order t179 4602678819172646912 == some .eq) = true then ((quality_Clamp.f t178).bind fun t180 => (some (FloatKind.f64.format.order t180 0 == some .eq))) else (some false))) else (some false)) else (some false)) else (some false)) = some r := H
  have A4 := Aside0.mk A40
  clear A40
  by_cases c5 : t176 = 1
  ·rw [if_pos c5] at H
   have c5b0 : (t176 == 1) = true := beq_iff_eq.mpr c5
   have c5b1 : (t176 != 1) = false := bne_eq_false_iff_eq.mpr c5
   clear c5
   by_cases c6 : (FloatKind.f64.format.order t177 4607182418800017408 == some .eq) = true
   ·rw [if_pos c6] at H
    have c6b0 : (FloatKind.f64.format.order t177 4607182418800017408 == some .eq) = true := c6
    (try (have c6b1 : decide (FloatKind.f64.format.order t177 4607182418800017408 = some .eq) = true := by simpa using c6))
    (try (have c6b2 : (FloatKind.f64.format.order t177 4607182418800017408 == some .eq) = true := by simpa using c6))
    clear c6
    by_cases c7 : (FloatKind.f64.format.order t178 t178 != some .eq) = true
    ·rw [if_pos c7] at H
     have c7b0 : (FloatKind.f64.format.order t178 t178 != some .eq) = true := c7
     (try (have c7b1 : decide (FloatKind.f64.format.order t178 t178 = some .eq) = false := by simpa using c7))
     (try (have c7b2 : (FloatKind.f64.format.order t178 t178 == some .eq) = false := by simpa using c7))
     (try (have c7b3 : ¬ (FloatKind.f64.format.order t178 t178 = some .eq) := by simpa using c7))
     clear c7
     replace H := Option.bind_eq_some_iff.mp H
     obtain ⟨t179, A80, H⟩ := H
     replace H : (if (FloatKind.f64.format.order t179 4602678819172646912 == some .eq) = true then ((quality_Clamp.f t178).bind fun t180 => (some (FloatKind.f64.format.order t180 0 == some .eq))) else (some false)) = some r := H
     have A8 := Aside0.mk A80
     clear A80
     by_cases c9 : (FloatKind.f64.format.order t179 4602678819172646912 == some .eq) = true
     ·rw [if_pos c9] at H
      have c9b0 : (FloatKind.f64.format.order t179 4602678819172646912 == some .eq) = true := c9
      (try (have c9b1 : decide (FloatKind.f64.format.order t179 4602678819172646912 = some .eq) = true := by simpa using c9))
      (try (have c9b2 : (FloatKind.f64.format.order t179 4602678819172646912 == some .eq) = true := by simpa using c9))
      clear c9
      replace H := Option.bind_eq_some_iff.mp H
      obtain ⟨t180, A100, H⟩ := H
      replace H : (some (FloatKind.f64.format.order t180 0 == some .eq)) = some r := H
      have A10 := Aside0.mk A100
      clear A100
      obtain rfl := Option.some.inj H
      go_enter Tryd.func8, Tryd.ntmps8
      go_wp2_with (first | ((with_reducible refine gate_callee (f := 13) rfl ?_); refine goesL_ (some 5) rfl rfl Tryd.func13 zb15 rfl #[] rfl zb1 ?_; (with_reducible refine (broadsheetlaw14_have.calls  t168 _ A1.out).mono ?_); rintro e w11 ⟨v169, rfl, ho0, hb⟩; refine ⟨_, rfl, ?_⟩; have n0_ := Aside0.mk (Kd.N_lower (Kd.N_mono (ok' := fun k_ => True) ho0 (fun k_ hk_ => trivial)) (below_size zb0)); have n1_ := Aside0.mk (below_step zb0 hb); clear HB; have HO170 := n0_; have HB := n1_; clear n0_ n1_; (try clear hb); (try clear hb2); (try clear hk); (try clear hi); (try clear ho0); obtain ⟨Ao13, co13, eo13⟩ := Kd.N_slice HO170.out; subst eo13; have q12 : (2 : Int) ≤ ((t168.length : Int) : Int) := of_decide_eq_true zb11; obtain ⟨i012, hi012, _, hsz12, _⟩ := info_parts info45; have hroom12 : t168.length ≤ co13 := (Kd.N_reads' HO170.out).2.1; have hC12 : Kd.F k45 _ _ Ao13 t168.length t168 := (Kd.V_at (base := w.heap.size) (Kd.N_V HO170.out)).2.2; have hcut12 := cut_to (P := Tryd.prog) 30 45 .i64 Tryd.underlying30 hi012 Ao13 t168.length co13 2 zb37 q12 hroom12; have hr12 := Kd.F_take (m := 2) hC12 zb37; have hy12 : y171.length = (2 : Int).toNat := (by rw [Ny171.out, List.length_take]; omega); rw [← Ny171.out] at hr12; rw [← hy12] at hcut12; have HO175 := Aside0.mk (show Kd.V k45 45 _ w.heap.size _ (.slice Ao13 y171.length co13) y171 from Kd.V_mk zb37 hr12); have HC175 := Aside0.mk (show y171.length ≤ co13 from by omega); clear hr12 hC12 hroom12 hi012 hsz12; have KY12 := Aside0.mk hy12; clear hy12; replace q12 := eq_true q12) | ((with_reducible refine gate_callee (f := 12) rfl ?_); refine goesL_ (some 7) rfl rfl Tryd.func12 zb15 rfl #[.string (⟨#[116, 101, 120, 116, 47, 42, 59, 113, 61, 48, 46, 53, 44, 32, 116, 101, 120, 116, 47, 104, 116, 109, 108, 44, 32, 42, 47, 42, 59, 113, 61, 48, 46, 49]⟩ : ByteArray), .slice Ao13 y171.length co13] rfl zb1 ?_; (with_reducible refine (quality_Best.calls k (⟨#[116, 101, 120, 116, 47, 42, 59, 113, 61, 48, 46, 53, 44, 32, 116, 101, 120, 116, 47, 104, 116, 109, 108, 44, 32, 42, 47, 42, 59, 113, 61, 48, 46, 49]⟩ : ByteArray) _ _ y171 t176 t177 _ ?side1 ?side2 ?side3 A3.out).mono ?_); (case side1 => repeat (first | exact (Kd.V_reads' HO175.out).2.2 | (with_reducible refine Kd.C_alloc ?_ _) | (with_reducible refine Kd.C_drewN ?_ _) | (with_reducible refine Kd.C_drew ?_))); (case side2 => exact (Kd.V_reads' HO175.out).2.1); (case side3 => exact Glob.below hGA.out zb0); rintro e w14 ⟨rfl, hb⟩; refine ⟨_, rfl, ?_⟩; have n0_ := Aside0.mk (Kd.N_below zb23 hb); have n1_ := Aside0.mk (Kd.V_below zb22 hb); have n2_ := Aside0.mk (below_step zb0 hb); clear HO170; clear HO175; clear HB; have HO170 := n0_; have HO175 := n1_; have HB := n2_; clear n0_ n1_ n2_; (try clear hb); (try clear hb2); (try clear hk); (try clear hi)) | ((with_reducible refine gate_callee (f := 15) rfl ?_); refine goesL_ (some 10) rfl rfl Tryd.func15 zb15 rfl #[.string (⟨#[49, 46, 53]⟩ : ByteArray)] rfl zb1 ?_; (with_reducible refine (quality_Weight.calls (⟨#[49, 46, 53]⟩ : ByteArray) t178 _ ?side1 A4.out).mono ?_); (case side1 => exact Glob.below hGA.out zb0); rintro e w15 ⟨rfl, hb⟩; refine ⟨_, rfl, ?_⟩; have n0_ := Aside0.mk (Kd.N_below zb23 hb); have n1_ := Aside0.mk (Kd.V_below zb22 hb); have n2_ := Aside0.mk (below_step zb0 hb); clear HO170; clear HO175; clear HB; have HO170 := n0_; have HO175 := n1_; have HB := n2_; clear n0_ n1_ n2_; (try clear hb); (try clear hb2); (try clear hk); (try clear hi)) | (go_at_call 15; (with_reducible refine (quality_Weight.calls (⟨#[48, 46, 53]⟩ : ByteArray) t179 _ ?side1 A8.out).mono ?_); (case side1 => exact Glob.below hGA.out zb0); rintro e w16 ⟨rfl, hb⟩; have n0_ := Aside0.mk (Kd.N_below zb23 hb); have n1_ := Aside0.mk (Kd.V_below zb22 hb); have n2_ := Aside0.mk (below_step zb0 hb); clear HO170; clear HO175; clear HB; have HO170 := n0_; have HO175 := n1_; have HB := n2_; clear n0_ n1_ n2_; (try clear hb); (try clear hb2); (try clear hk); (try clear hi)) | (go_at_call 19; (with_reducible refine (quality_Clamp.calls t178 t180 _ A10.out).mono ?_); rintro e w' ⟨rfl, ⟨nd, rfl⟩⟩))
      go_ret
      exact ⟨zb10, zb0⟩
     ·rw [if_neg c9] at H
      have c9b0 : (FloatKind.f64.format.order t179 4602678819172646912 == some .eq) = false := by simpa using c9
      (try (have c9b1 : decide (FloatKind.f64.format.order t179 4602678819172646912 = some .eq) = false := by simpa using c9))
      (try (have c9b2 : (FloatKind.f64.format.order t179 4602678819172646912 == some .eq) = false := by simpa using c9))
      (try (have c9b3 : ¬ (FloatKind.f64.format.order t179 4602678819172646912 = some .eq) := by simpa using c9))
      clear c9
      obtain rfl := Option.some.inj H
      go_enter Tryd.func8, Tryd.ntmps8
      go_wp2_with (first | ((with_reducible refine gate_callee (f := 13) rfl ?_); refine goesL_ (some 5) rfl rfl Tryd.func13 zb15 rfl #[] rfl zb1 ?_; (with_reducible refine (broadsheetlaw14_have.calls  t168 _ A1.out).mono ?_); rintro e w17 ⟨v169, rfl, ho0, hb⟩; refine ⟨_, rfl, ?_⟩; have n0_ := Aside0.mk (Kd.N_lower (Kd.N_mono (ok' := fun k_ => True) ho0 (fun k_ hk_ => trivial)) (below_size zb0)); have n1_ := Aside0.mk (below_step zb0 hb); clear HB; have HO170 := n0_; have HB := n1_; clear n0_ n1_; (try clear hb); (try clear hb2); (try clear hk); (try clear hi); (try clear ho0); obtain ⟨Ao19, co19, eo19⟩ := Kd.N_slice HO170.out; subst eo19; have q18 : (2 : Int) ≤ ((t168.length : Int) : Int) := of_decide_eq_true zb11; obtain ⟨i018, hi018, _, hsz18, _⟩ := info_parts info45; have hroom18 : t168.length ≤ co19 := (Kd.N_reads' HO170.out).2.1; have hC18 : Kd.F k45 _ _ Ao19 t168.length t168 := (Kd.V_at (base := w.heap.size) (Kd.N_V HO170.out)).2.2; have hcut18 := cut_to (P := Tryd.prog) 30 45 .i64 Tryd.underlying30 hi018 Ao19 t168.length co19 2 zb37 q18 hroom18; have hr18 := Kd.F_take (m := 2) hC18 zb37; have hy18 : y171.length = (2 : Int).toNat := (by rw [Ny171.out, List.length_take]; omega); rw [← Ny171.out] at hr18; rw [← hy18] at hcut18; have HO175 := Aside0.mk (show Kd.V k45 45 _ w.heap.size _ (.slice Ao19 y171.length co19) y171 from Kd.V_mk zb37 hr18); have HC175 := Aside0.mk (show y171.length ≤ co19 from by omega); clear hr18 hC18 hroom18 hi018 hsz18; have KY18 := Aside0.mk hy18; clear hy18; replace q18 := eq_true q18) | ((with_reducible refine gate_callee (f := 12) rfl ?_); refine goesL_ (some 7) rfl rfl Tryd.func12 zb15 rfl #[.string (⟨#[116, 101, 120, 116, 47, 42, 59, 113, 61, 48, 46, 53, 44, 32, 116, 101, 120, 116, 47, 104, 116, 109, 108, 44, 32, 42, 47, 42, 59, 113, 61, 48, 46, 49]⟩ : ByteArray), .slice Ao19 y171.length co19] rfl zb1 ?_; (with_reducible refine (quality_Best.calls k (⟨#[116, 101, 120, 116, 47, 42, 59, 113, 61, 48, 46, 53, 44, 32, 116, 101, 120, 116, 47, 104, 116, 109, 108, 44, 32, 42, 47, 42, 59, 113, 61, 48, 46, 49]⟩ : ByteArray) _ _ y171 t176 t177 _ ?side1 ?side2 ?side3 A3.out).mono ?_); (case side1 => repeat (first | exact (Kd.V_reads' HO175.out).2.2 | (with_reducible refine Kd.C_alloc ?_ _) | (with_reducible refine Kd.C_drewN ?_ _) | (with_reducible refine Kd.C_drew ?_))); (case side2 => exact (Kd.V_reads' HO175.out).2.1); (case side3 => exact Glob.below hGA.out zb0); rintro e w20 ⟨rfl, hb⟩; refine ⟨_, rfl, ?_⟩; have n0_ := Aside0.mk (Kd.N_below zb23 hb); have n1_ := Aside0.mk (Kd.V_below zb22 hb); have n2_ := Aside0.mk (below_step zb0 hb); clear HO170; clear HO175; clear HB; have HO170 := n0_; have HO175 := n1_; have HB := n2_; clear n0_ n1_ n2_; (try clear hb); (try clear hb2); (try clear hk); (try clear hi)) | ((with_reducible refine gate_callee (f := 15) rfl ?_); refine goesL_ (some 10) rfl rfl Tryd.func15 zb15 rfl #[.string (⟨#[49, 46, 53]⟩ : ByteArray)] rfl zb1 ?_; (with_reducible refine (quality_Weight.calls (⟨#[49, 46, 53]⟩ : ByteArray) t178 _ ?side1 A4.out).mono ?_); (case side1 => exact Glob.below hGA.out zb0); rintro e w21 ⟨rfl, hb⟩; refine ⟨_, rfl, ?_⟩; have n0_ := Aside0.mk (Kd.N_below zb23 hb); have n1_ := Aside0.mk (Kd.V_below zb22 hb); have n2_ := Aside0.mk (below_step zb0 hb); clear HO170; clear HO175; clear HB; have HO170 := n0_; have HO175 := n1_; have HB := n2_; clear n0_ n1_ n2_; (try clear hb); (try clear hb2); (try clear hk); (try clear hi)) | (go_at_call 15; (with_reducible refine (quality_Weight.calls (⟨#[48, 46, 53]⟩ : ByteArray) t179 _ ?side1 A8.out).mono ?_); (case side1 => exact Glob.below hGA.out zb0); rintro e w22 ⟨rfl, hb⟩; have n0_ := Aside0.mk (Kd.N_below zb23 hb); have n1_ := Aside0.mk (Kd.V_below zb22 hb); have n2_ := Aside0.mk (below_step zb0 hb); clear HO170; clear HO175; clear HB; have HO170 := n0_; have HO175 := n1_; have HB := n2_; clear n0_ n1_ n2_; (try clear hb); (try clear hb2); (try clear hk); (try clear hi)))
      go_ret
      exact ⟨zb10, zb0⟩
    ·rw [if_neg c7] at H
     have c7b0 : (FloatKind.f64.format.order t178 t178 != some .eq) = false := by simpa using c7
     (try (have c7b1 : decide (FloatKind.f64.format.order t178 t178 = some .eq) = true := by simpa using c7))
     (try (have c7b2 : (FloatKind.f64.format.order t178 t178 == some .eq) = true := by simpa using c7))
     clear c7
     obtain rfl := Option.some.inj H
     go_enter Tryd.func8, Tryd.ntmps8
     go_wp2_with (first | ((with_reducible refine gate_callee (f := 13) rfl ?_); refine goesL_ (some 5) rfl rfl Tryd.func13 zb15 rfl #[] rfl zb1 ?_; (with_reducible refine (broadsheetlaw14_have.calls  t168 _ A1.out).mono ?_); rintro e w23 ⟨v169, rfl, ho0, hb⟩; refine ⟨_, rfl, ?_⟩; have n0_ := Aside0.mk (Kd.N_lower (Kd.N_mono (ok' := fun k_ => True) ho0 (fun k_ hk_ => trivial)) (below_size zb0)); have n1_ := Aside0.mk (below_step zb0 hb); clear HB; have HO170 := n0_; have HB := n1_; clear n0_ n1_; (try clear hb); (try clear hb2); (try clear hk); (try clear hi); (try clear ho0); obtain ⟨Ao25, co25, eo25⟩ := Kd.N_slice HO170.out; subst eo25; have q24 : (2 : Int) ≤ ((t168.length : Int) : Int) := of_decide_eq_true zb11; obtain ⟨i024, hi024, _, hsz24, _⟩ := info_parts info45; have hroom24 : t168.length ≤ co25 := (Kd.N_reads' HO170.out).2.1; have hC24 : Kd.F k45 _ _ Ao25 t168.length t168 := (Kd.V_at (base := w.heap.size) (Kd.N_V HO170.out)).2.2; have hcut24 := cut_to (P := Tryd.prog) 30 45 .i64 Tryd.underlying30 hi024 Ao25 t168.length co25 2 zb37 q24 hroom24; have hr24 := Kd.F_take (m := 2) hC24 zb37; have hy24 : y171.length = (2 : Int).toNat := (by rw [Ny171.out, List.length_take]; omega); rw [← Ny171.out] at hr24; rw [← hy24] at hcut24; have HO175 := Aside0.mk (show Kd.V k45 45 _ w.heap.size _ (.slice Ao25 y171.length co25) y171 from Kd.V_mk zb37 hr24); have HC175 := Aside0.mk (show y171.length ≤ co25 from by omega); clear hr24 hC24 hroom24 hi024 hsz24; have KY24 := Aside0.mk hy24; clear hy24; replace q24 := eq_true q24) | ((with_reducible refine gate_callee (f := 12) rfl ?_); refine goesL_ (some 7) rfl rfl Tryd.func12 zb15 rfl #[.string (⟨#[116, 101, 120, 116, 47, 42, 59, 113, 61, 48, 46, 53, 44, 32, 116, 101, 120, 116, 47, 104, 116, 109, 108, 44, 32, 42, 47, 42, 59, 113, 61, 48, 46, 49]⟩ : ByteArray), .slice Ao25 y171.length co25] rfl zb1 ?_; (with_reducible refine (quality_Best.calls k (⟨#[116, 101, 120, 116, 47, 42, 59, 113, 61, 48, 46, 53, 44, 32, 116, 101, 120, 116, 47, 104, 116, 109, 108, 44, 32, 42, 47, 42, 59, 113, 61, 48, 46, 49]⟩ : ByteArray) _ _ y171 t176 t177 _ ?side1 ?side2 ?side3 A3.out).mono ?_); (case side1 => repeat (first | exact (Kd.V_reads' HO175.out).2.2 | (with_reducible refine Kd.C_alloc ?_ _) | (with_reducible refine Kd.C_drewN ?_ _) | (with_reducible refine Kd.C_drew ?_))); (case side2 => exact (Kd.V_reads' HO175.out).2.1); (case side3 => exact Glob.below hGA.out zb0); rintro e w26 ⟨rfl, hb⟩; refine ⟨_, rfl, ?_⟩; have n0_ := Aside0.mk (Kd.N_below zb23 hb); have n1_ := Aside0.mk (Kd.V_below zb22 hb); have n2_ := Aside0.mk (below_step zb0 hb); clear HO170; clear HO175; clear HB; have HO170 := n0_; have HO175 := n1_; have HB := n2_; clear n0_ n1_ n2_; (try clear hb); (try clear hb2); (try clear hk); (try clear hi)) | ((with_reducible refine gate_callee (f := 15) rfl ?_); refine goesL_ (some 10) rfl rfl Tryd.func15 zb15 rfl #[.string (⟨#[49, 46, 53]⟩ : ByteArray)] rfl zb1 ?_; (with_reducible refine (quality_Weight.calls (⟨#[49, 46, 53]⟩ : ByteArray) t178 _ ?side1 A4.out).mono ?_); (case side1 => exact Glob.below hGA.out zb0); rintro e w27 ⟨rfl, hb⟩; refine ⟨_, rfl, ?_⟩; have n0_ := Aside0.mk (Kd.N_below zb23 hb); have n1_ := Aside0.mk (Kd.V_below zb22 hb); have n2_ := Aside0.mk (below_step zb0 hb); clear HO170; clear HO175; clear HB; have HO170 := n0_; have HO175 := n1_; have HB := n2_; clear n0_ n1_ n2_; (try clear hb); (try clear hb2); (try clear hk); (try clear hi)))
     go_ret
     exact ⟨zb10, zb0⟩
   ·rw [if_neg c6] at H
    have c6b0 : (FloatKind.f64.format.order t177 4607182418800017408 == some .eq) = false := by simpa using c6
    (try (have c6b1 : decide (FloatKind.f64.format.order t177 4607182418800017408 = some .eq) = false := by simpa using c6))
    (try (have c6b2 : (FloatKind.f64.format.order t177 4607182418800017408 == some .eq) = false := by simpa using c6))
    (try (have c6b3 : ¬ (FloatKind.f64.format.order t177 4607182418800017408 = some .eq) := by simpa using c6))
    clear c6
    obtain rfl := Option.some.inj H
    go_enter Tryd.func8, Tryd.ntmps8
    go_wp2_with (first | ((with_reducible refine gate_callee (f := 13) rfl ?_); refine goesL_ (some 5) rfl rfl Tryd.func13 zb15 rfl #[] rfl zb1 ?_; (with_reducible refine (broadsheetlaw14_have.calls  t168 _ A1.out).mono ?_); rintro e w28 ⟨v169, rfl, ho0, hb⟩; refine ⟨_, rfl, ?_⟩; have n0_ := Aside0.mk (Kd.N_lower (Kd.N_mono (ok' := fun k_ => True) ho0 (fun k_ hk_ => trivial)) (below_size zb0)); have n1_ := Aside0.mk (below_step zb0 hb); clear HB; have HO170 := n0_; have HB := n1_; clear n0_ n1_; (try clear hb); (try clear hb2); (try clear hk); (try clear hi); (try clear ho0); obtain ⟨Ao30, co30, eo30⟩ := Kd.N_slice HO170.out; subst eo30; have q29 : (2 : Int) ≤ ((t168.length : Int) : Int) := of_decide_eq_true zb11; obtain ⟨i029, hi029, _, hsz29, _⟩ := info_parts info45; have hroom29 : t168.length ≤ co30 := (Kd.N_reads' HO170.out).2.1; have hC29 : Kd.F k45 _ _ Ao30 t168.length t168 := (Kd.V_at (base := w.heap.size) (Kd.N_V HO170.out)).2.2; have hcut29 := cut_to (P := Tryd.prog) 30 45 .i64 Tryd.underlying30 hi029 Ao30 t168.length co30 2 zb37 q29 hroom29; have hr29 := Kd.F_take (m := 2) hC29 zb37; have hy29 : y171.length = (2 : Int).toNat := (by rw [Ny171.out, List.length_take]; omega); rw [← Ny171.out] at hr29; rw [← hy29] at hcut29; have HO175 := Aside0.mk (show Kd.V k45 45 _ w.heap.size _ (.slice Ao30 y171.length co30) y171 from Kd.V_mk zb37 hr29); have HC175 := Aside0.mk (show y171.length ≤ co30 from by omega); clear hr29 hC29 hroom29 hi029 hsz29; have KY29 := Aside0.mk hy29; clear hy29; replace q29 := eq_true q29) | ((with_reducible refine gate_callee (f := 12) rfl ?_); refine goesL_ (some 7) rfl rfl Tryd.func12 zb15 rfl #[.string (⟨#[116, 101, 120, 116, 47, 42, 59, 113, 61, 48, 46, 53, 44, 32, 116, 101, 120, 116, 47, 104, 116, 109, 108, 44, 32, 42, 47, 42, 59, 113, 61, 48, 46, 49]⟩ : ByteArray), .slice Ao30 y171.length co30] rfl zb1 ?_; (with_reducible refine (quality_Best.calls k (⟨#[116, 101, 120, 116, 47, 42, 59, 113, 61, 48, 46, 53, 44, 32, 116, 101, 120, 116, 47, 104, 116, 109, 108, 44, 32, 42, 47, 42, 59, 113, 61, 48, 46, 49]⟩ : ByteArray) _ _ y171 t176 t177 _ ?side1 ?side2 ?side3 A3.out).mono ?_); (case side1 => repeat (first | exact (Kd.V_reads' HO175.out).2.2 | (with_reducible refine Kd.C_alloc ?_ _) | (with_reducible refine Kd.C_drewN ?_ _) | (with_reducible refine Kd.C_drew ?_))); (case side2 => exact (Kd.V_reads' HO175.out).2.1); (case side3 => exact Glob.below hGA.out zb0); rintro e w31 ⟨rfl, hb⟩; refine ⟨_, rfl, ?_⟩; have n0_ := Aside0.mk (Kd.N_below zb23 hb); have n1_ := Aside0.mk (Kd.V_below zb22 hb); have n2_ := Aside0.mk (below_step zb0 hb); clear HO170; clear HO175; clear HB; have HO170 := n0_; have HO175 := n1_; have HB := n2_; clear n0_ n1_ n2_; (try clear hb); (try clear hb2); (try clear hk); (try clear hi)) | ((with_reducible refine gate_callee (f := 15) rfl ?_); refine goesL_ (some 10) rfl rfl Tryd.func15 zb15 rfl #[.string (⟨#[49, 46, 53]⟩ : ByteArray)] rfl zb1 ?_; (with_reducible refine (quality_Weight.calls (⟨#[49, 46, 53]⟩ : ByteArray) t178 _ ?side1 A4.out).mono ?_); (case side1 => exact Glob.below hGA.out zb0); rintro e w32 ⟨rfl, hb⟩; refine ⟨_, rfl, ?_⟩; have n0_ := Aside0.mk (Kd.N_below zb23 hb); have n1_ := Aside0.mk (Kd.V_below zb22 hb); have n2_ := Aside0.mk (below_step zb0 hb); clear HO170; clear HO175; clear HB; have HO170 := n0_; have HO175 := n1_; have HB := n2_; clear n0_ n1_ n2_; (try clear hb); (try clear hb2); (try clear hk); (try clear hi)))
    go_ret
    exact ⟨zb10, zb0⟩
  ·rw [if_neg c5] at H
   have c5b0 : (t176 == 1) = false := beq_eq_false_iff_ne.mpr c5
   have c5b1 : (t176 != 1) = true := bne_iff_ne.mpr c5
   obtain rfl := Option.some.inj H
   go_enter Tryd.func8, Tryd.ntmps8
   go_wp2_with (first | ((with_reducible refine gate_callee (f := 13) rfl ?_); refine goesL_ (some 5) rfl rfl Tryd.func13 zb15 rfl #[] rfl zb1 ?_; (with_reducible refine (broadsheetlaw14_have.calls  t168 _ A1.out).mono ?_); rintro e w33 ⟨v169, rfl, ho0, hb⟩; refine ⟨_, rfl, ?_⟩; have n0_ := Aside0.mk (Kd.N_lower (Kd.N_mono (ok' := fun k_ => True) ho0 (fun k_ hk_ => trivial)) (below_size zb0)); have n1_ := Aside0.mk (below_step zb0 hb); clear HB; have HO170 := n0_; have HB := n1_; clear n0_ n1_; (try clear hb); (try clear hb2); (try clear hk); (try clear hi); (try clear ho0); obtain ⟨Ao35, co35, eo35⟩ := Kd.N_slice HO170.out; subst eo35; have q34 : (2 : Int) ≤ ((t168.length : Int) : Int) := of_decide_eq_true zb11; obtain ⟨i034, hi034, _, hsz34, _⟩ := info_parts info45; have hroom34 : t168.length ≤ co35 := (Kd.N_reads' HO170.out).2.1; have hC34 : Kd.F k45 _ _ Ao35 t168.length t168 := (Kd.V_at (base := w.heap.size) (Kd.N_V HO170.out)).2.2; have hcut34 := cut_to (P := Tryd.prog) 30 45 .i64 Tryd.underlying30 hi034 Ao35 t168.length co35 2 zb37 q34 hroom34; have hr34 := Kd.F_take (m := 2) hC34 zb37; have hy34 : y171.length = (2 : Int).toNat := (by rw [Ny171.out, List.length_take]; omega); rw [← Ny171.out] at hr34; rw [← hy34] at hcut34; have HO175 := Aside0.mk (show Kd.V k45 45 _ w.heap.size _ (.slice Ao35 y171.length co35) y171 from Kd.V_mk zb37 hr34); have HC175 := Aside0.mk (show y171.length ≤ co35 from by omega); clear hr34 hC34 hroom34 hi034 hsz34; have KY34 := Aside0.mk hy34; clear hy34; replace q34 := eq_true q34) | ((with_reducible refine gate_callee (f := 12) rfl ?_); refine goesL_ (some 7) rfl rfl Tryd.func12 zb15 rfl #[.string (⟨#[116, 101, 120, 116, 47, 42, 59, 113, 61, 48, 46, 53, 44, 32, 116, 101, 120, 116, 47, 104, 116, 109, 108, 44, 32, 42, 47, 42, 59, 113, 61, 48, 46, 49]⟩ : ByteArray), .slice Ao35 y171.length co35] rfl zb1 ?_; (with_reducible refine (quality_Best.calls k (⟨#[116, 101, 120, 116, 47, 42, 59, 113, 61, 48, 46, 53, 44, 32, 116, 101, 120, 116, 47, 104, 116, 109, 108, 44, 32, 42, 47, 42, 59, 113, 61, 48, 46, 49]⟩ : ByteArray) _ _ y171 t176 t177 _ ?side1 ?side2 ?side3 A3.out).mono ?_); (case side1 => repeat (first | exact (Kd.V_reads' HO175.out).2.2 | (with_reducible refine Kd.C_alloc ?_ _) | (with_reducible refine Kd.C_drewN ?_ _) | (with_reducible refine Kd.C_drew ?_))); (case side2 => exact (Kd.V_reads' HO175.out).2.1); (case side3 => exact Glob.below hGA.out zb0); rintro e w36 ⟨rfl, hb⟩; refine ⟨_, rfl, ?_⟩; have n0_ := Aside0.mk (Kd.N_below zb23 hb); have n1_ := Aside0.mk (Kd.V_below zb22 hb); have n2_ := Aside0.mk (below_step zb0 hb); clear HO170; clear HO175; clear HB; have HO170 := n0_; have HO175 := n1_; have HB := n2_; clear n0_ n1_ n2_; (try clear hb); (try clear hb2); (try clear hk); (try clear hi)) | ((with_reducible refine gate_callee (f := 15) rfl ?_); refine goesL_ (some 10) rfl rfl Tryd.func15 zb15 rfl #[.string (⟨#[49, 46, 53]⟩ : ByteArray)] rfl zb1 ?_; (with_reducible refine (quality_Weight.calls (⟨#[49, 46, 53]⟩ : ByteArray) t178 _ ?side1 A4.out).mono ?_); (case side1 => exact Glob.below hGA.out zb0); rintro e w37 ⟨rfl, hb⟩; refine ⟨_, rfl, ?_⟩; have n0_ := Aside0.mk (Kd.N_below zb23 hb); have n1_ := Aside0.mk (Kd.V_below zb22 hb); have n2_ := Aside0.mk (below_step zb0 hb); clear HO170; clear HO175; clear HB; have HO170 := n0_; have HO175 := n1_; have HB := n2_; clear n0_ n1_ n2_; (try clear hb); (try clear hb2); (try clear hk); (try clear hi)))
   go_ret
   exact ⟨zb10, zb0⟩
 ·rw [if_neg c2] at H
  exact absurd H (by simp)
end Go.Proofs.YtghfbhobpodoeaaDoor.P
/- SpQd -/
namespace Go.Proofs.YtghfbhobpodoeaaDoor.Sp
open Go Go.RowKit Go.Proofs.YtghfbhobpodoeaaDoorW.PrintWords Go.Proofs.YtghfbhobpodoeaaDoorW.PrintLast Go.Proofs.YtghfbhobpodoeaaDoor.O Go.Proofs.YtghfbhobpodoeaaDoor.P
set_option linter.unusedVariables false
set_option linter.unusedSimpArgs false
def haveL : List Med := [⟨[116, 101, 120, 116], [112, 108, 97, 105, 110], []⟩, ⟨[116, 101, 120, 116], [104, 116, 109, 108], []⟩, ⟨[105, 109, 97, 103, 101], [112, 110, 103], []⟩, ⟨[97, 112, 112, 108, 105, 99, 97, 116, 105, 111, 110], [97, 116, 111, 109, 43, 120, 109, 108], [([116, 121, 112, 101], [101, 110, 116, 114, 121])]⟩]
theorem haveF : broadsheetlaw14_have.f = some (haveL.map medB) := rfl
theorem psm_nil (N : Nat) : PSm N [] := fun p hp => by simp at hp
theorem have_sm : ∀ m ∈ haveL, MSm 1000000 m := by
  intro m hm
  simp only [haveL, List.mem_cons, List.not_mem_nil, or_false] at hm
  rcases hm with rfl | rfl | rfl | rfl
  · exact ⟨by decide, by decide, by decide, psm_nil _⟩
  · exact ⟨by decide, by decide, by decide, psm_nil _⟩
  · exact ⟨by decide, by decide, by decide, psm_nil _⟩
  · exact ⟨by decide, by decide, by decide, fun p hp => by simp at hp; subst hp; decide⟩
def awkS : L := [116, 101, 120, 116, 47, 42, 59, 113, 61, 48, 46, 53, 44, 32, 116, 101, 120, 116, 47, 104, 116, 109, 108, 44, 32, 42, 47, 42, 59, 113, 61, 48, 46, 49]
theorem awk_best : best awkS (haveL.take 2) = (1, one64) := by decide +kernel
theorem wei_15 : weiL [49, 46, 53] = nanW := by decide +kernel
theorem wei_05 : weiL [48, 46, 53] = 4602678819172646912 := by decide +kernel
theorem fl_1 : (FloatKind.f64.format.order one64 4607182418800017408 == some .eq) = true := by decide +kernel
theorem fl_2 : (FloatKind.f64.format.order nanW nanW != some .eq) = true := by decide +kernel
theorem fl_3 : (FloatKind.f64.format.order 4602678819172646912 4602678819172646912 == some .eq) = true := by decide +kernel
theorem fl_4 : clampW nanW = 0 := by decide +kernel
theorem fl_5 : (FloatKind.f64.format.order 0 0 == some .eq) = true := by decide +kernel
theorem awake14 (k : Nat) (hk : 10000000 ≤ k) : broadsheetlaw14_awake.f k = some true := by
  unfold broadsheetlaw14_awake.f
  rw [haveF]
  simp only [Option.bind_some]
  rw [if_pos (by decide)]
  rw [show (⟨#[116, 101, 120, 116, 47, 42, 59, 113, 61, 48, 46, 53, 44, 32, 116, 101, 120, 116, 47, 104, 116, 109, 108, 44, 32, 42, 47, 42, 59, 113, 61, 48, 46, 49]⟩ : ByteArray) = mk awkS from rfl, show ((haveL.map medB).take 2) = (haveL.take 2).map medB from rfl]
  rw [bestF awkS (haveL.take 2) k (by decide) (fun m hm => have_sm m (List.mem_of_mem_take hm)) (by decide) hk, awk_best]
  simp only [Option.bind_some]
  rw [show (⟨#[49, 46, 53]⟩ : ByteArray) = mk [49, 46, 53] from rfl, weiF _ (by decide), wei_15]
  simp only [Option.bind_some, if_true]
  rw [show (⟨#[48, 46, 53]⟩ : ByteArray) = mk [48, 46, 53] from rfl, if_pos fl_1, if_pos fl_2, weiF _ (by decide), wei_05]
  simp only [Option.bind_some]
  rw [if_pos fl_3]
  unfold quality_Clamp.f
  simp only [Option.bind_some]
  rw [fl_4, fl_5]
theorem nan_eq (x : Nat) : (FloatKind.f64.format.order x x != some .eq) = nanB x := by
  cases h : nanB x with
  | true => rw [order_nanL h]; rfl
  | false =>
    rw [order_key h h]
    simp [cmp_int]
def sameW (a b : Nat) : Bool := (nanB a && nanB b) || (!nanB a && !nanB b && decide (keyI a = keyI b) && (decide (wrap64 (a : Int) < 0) == decide (wrap64 (b : Int) < 0)))
theorem eq_key (a b : Nat) : (FloatKind.f64.format.order a b == some .eq) = (!nanB a && !nanB b && decide (keyI a = keyI b)) := by
  cases ha : nanB a with
  | true => rw [order_nanL ha]; rfl
  | false =>
    cases hb : nanB b with
    | true => rw [order_nanR hb]; simp
    | false =>
      rw [order_key ha hb, cmp_int]
      by_cases h1 : keyI a < keyI b
      · rw [if_pos h1]
        have : ¬ keyI a = keyI b := by omega
        simp [this]
      · rw [if_neg h1]
        by_cases h2 : keyI a = keyI b
        · rw [if_pos h2]; simp [h2]
        · rw [if_neg h2]; simp [h2]
theorem gt_key (a b : Nat) : (FloatKind.f64.format.order a b == some .gt) = (!nanB a && !nanB b && decide (keyI b < keyI a)) := by
  cases ha : nanB a with
  | true => rw [order_nanL ha]; rfl
  | false =>
    cases hb : nanB b with
    | true => rw [order_nanR hb]; simp
    | false =>
      rw [order_key ha hb, cmp_int]
      by_cases h1 : keyI a < keyI b
      · rw [if_pos h1]
        have : ¬ keyI b < keyI a := by omega
        simp [this]
      · rw [if_neg h1]
        by_cases h2 : keyI a = keyI b
        · rw [if_pos h2]; simp [h2]
        · rw [if_neg h2]
          have : keyI b < keyI a := by omega
          simp [this]
theorem lt_key (a b : Nat) : (FloatKind.f64.format.order a b == some .lt) = (!nanB a && !nanB b && decide (keyI a < keyI b)) := by
  cases ha : nanB a with
  | true => rw [order_nanL ha]; rfl
  | false =>
    cases hb : nanB b with
    | true => rw [order_nanR hb]; simp
    | false =>
      rw [order_key ha hb, cmp_int]
      by_cases h1 : keyI a < keyI b
      · rw [if_pos h1]; simp [h1]
      · rw [if_neg h1]
        by_cases h2 : keyI a = keyI b
        · rw [if_pos h2]; simp [h1]
        · rw [if_neg h2]; simp [h1]
end Go.Proofs.YtghfbhobpodoeaaDoor.Sp
