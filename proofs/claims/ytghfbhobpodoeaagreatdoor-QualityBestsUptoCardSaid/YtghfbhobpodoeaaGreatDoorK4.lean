/- Texts of this seat, joined: lemmas and walks that its statements' proofs use. -/
import Derived.Test.YtghfbhobpodoeaaGreatDoorK1
import Derived.Test.YtghfbhobpodoeaaGreatDoorK2
import Derived.Test.YtghfbhobpodoeaaGreatDoorK3
import Derived.Deep.DeepCutAuto
import Derived.Deep.CutBlock
/- Orwe -/
namespace Go.Proofs.YtghfbhobpodoeaaGreatDoor.O
open Go.RowKit Go.Proofs.YtghfbhobpodoeaaGreatDoorW.PrintWords Go.Proofs.YtghfbhobpodoeaaGreatDoorW.PrintLast Go.Proofs.YtghfbhobpodoeaaGreatDoorW.PrintMore
set_option linter.unusedVariables false
set_option linter.unusedSimpArgs false
def nanV (w : World) : Nat := Question.cut (.nanBits .f64 0 0) (w.tape w.drawn (.nanBits .f64 0 0))
theorem nan_run {P : Program} (t : TypeId) (w : World) : (binOp .quo t (.float .f64 0) (.float .f64 0)).run P w = .ok (.float .f64 (nanV w)) w.drew := by
  have h : FloatKind.f64.format.div 0 0 = none := by decide +kernel
  simp [binOp, Op.floatArith, h, nanV, Question.forced]
theorem nanV_nan (w : World) : Sp.nanB (nanV w) = true := by
  unfold nanV Sp.nanB Sp.rungN Question.cut Sp.infR
  simp only [decide_eq_true_eq]
  generalize w.tape w.drawn (Question.nanBits FloatKind.f64 0 0) = t
  have h1 : t % 2 < 2 := Nat.mod_lt _ zb47
  have h2 : t / 2 % 2251799813685247 < 2251799813685247 := Nat.mod_lt _ zb47
  have e : (t % 2 * 2 ^ 63 + 9218868437227405312 + 1 + t / 2 % (2 ^ 52 - 1)) % 2 ^ 63 = 9218868437227405312 + 1 + t / 2 % (2 ^ 52 - 1) := by
    rw [Nat.add_assoc, Nat.add_assoc, Nat.mul_comm, Nat.mul_add_mod, Nat.mod_eq_of_lt zb42, Nat.add_assoc]
  show 9218868437227405312 < (t % 2 * 2 ^ 63 + 9218868437227405312 + 1 + t / 2 % (2 ^ 52 - 1)) % 2 ^ 63
  rw [e]
  omega
def WordIs (r b : Nat) : Prop := b = r ∨ (Sp.nanB b = true ∧ Sp.nanB r = true)
def rwl (s : ByteArray) : Nat → Nat → Int → Int → Option Int
  | 0, _, _, _ => none
  | f + 1, i, n, pl => if i < s.size then (if bt s i < 48 then none else if bt s i > 57 then none else rwl s f (i + 1) (wrap64 (n + (bt s i - 48) * pl)) (pl / 10)) else some n
def rwBad (s : ByteArray) : Prop := s.size = 0 ∨ (bt s 0 ≠ 48 ∧ bt s 0 ≠ 49) ∨ 5 < s.size ∨ (1 < s.size ∧ bt s 1 ≠ 46)
instance (s : ByteArray) : Decidable (rwBad s) := by unfold rwBad; infer_instance
def rwN (s : ByteArray) : Option Int := if rwBad s then none else rwl s 20 2 ((bt s 0 - 48) * 1000) 100
def rwR (o : Option Int) : Option Nat := match o with
  | none => some nanW
  | some n => if n > 1000 then some nanW else if 0 ≤ n then some (fdiv n.toNat) else none
def ref14_Weight.f (a0 : ByteArray) : Option Nat := rwR (rwN a0)
theorem nanW_nan : Sp.nanB nanW = true := by decide
theorem rw_nan {r : Nat} (h : rwR none = some r) : r = nanW := (Option.some.inj h).symm
set_option maxHeartbeats 4000000 in
set_option maxRecDepth 100000 in
theorem ref14_Weight.calls (a0 : ByteArray) (r : Nat) (w : World) (h : ref14_Weight.f a0 = some r) :
    Calls Tryz.prog 35 #[.string a0] w fun e w' => ∃ b, e = .returned (.float .f64 b) ∧ WordIs r b ∧ Drawn0 w w' := by
  have hq0 := nan_run (P := Tryz.prog)
  have hnn := Lib.hid nanV_nan
  generalize nanV = nV at hq0 hnn
  have hbad : Hid (rwBad a0 → r = nanW) := Lib.hid (fun hb => by unfold ref14_Weight.f rwN at h; rw [if_pos hb] at h; exact rw_nan h)
  by_cases hsz : a0.size = 0
  · have hr2 : Hid (r = nanW) := Lib.hid (hbad.out (.inl hsz))
    have he : a0 = ⟨#[]⟩ := by
      have : a0.data.size = 0 := hsz
      cases a0 with
      | mk d => simp at this; rw [this]
    clear h hbad
    subst he
    go_enter Tryz.func35, Tryz.ntmps35
    go_wp2
    go_ret
    exact ⟨_, rfl, .inr ⟨hnn.out _, by rw [hr2.out]; exact nanW_nan⟩, ⟨1, rfl⟩⟩
  have hne : (a0.toList == []) = false := by
    have : a0.toList.length ≠ 0 := by rw [Lib.toList_data, ← Lib.size_eq]; exact hsz
    cases hl : a0.toList with
    | nil => rw [hl] at this; exact absurd rfl this
    | cons x y => rfl
  have hp0 : 0 < a0.size := by omega
  have hidx0 : ∀ h : 0 < a0.size, ((a0[0]'h).toNat : Int) = bt a0 0 := fun h => by unfold bt; rw [dif_pos (show (Int.toNat 0) < a0.size from h)]; rfl
  obtain ⟨q1, q2⟩ := bt_range a0 0
  by_cases hA : bt a0 0 ≠ 48 ∧ bt a0 0 ≠ 49
  · have hr2 : Hid (r = nanW) := Lib.hid (hbad.out (.inr (.inl hA)))
    obtain ⟨hA1, hA2⟩ := hA
    clear h hbad
    generalize hd : bt a0 0 = d at *
    clear hd
    go_enter Tryz.func35, Tryz.ntmps35
    go_wp2
    go_ret
    exact ⟨_, rfl, .inr ⟨hnn.out _, by rw [hr2.out]; exact nanW_nan⟩, ⟨1, rfl⟩⟩
  have hA2 : bt a0 0 = 48 ∨ bt a0 0 = 49 := by
    by_cases h1 : bt a0 0 = 48
    · exact .inl h1
    · exact .inr (Classical.byContradiction fun h2 => hA ⟨h1, h2⟩)
  clear hA
  by_cases hB : 5 < a0.size
  · have hr2 : Hid (r = nanW) := Lib.hid (hbad.out (.inr (.inr (.inl hB))))
    have hB' : (5 : Int) < (a0.size : Int) := by omega
    clear h hbad
    rcases hA2 with hc | hc
    all_goals
      rw [hc] at hidx0
      clear hc q1 q2
      go_enter Tryz.func35, Tryz.ntmps35
      go_wp2
      go_ret
      exact ⟨_, rfl, .inr ⟨hnn.out _, by rw [hr2.out]; exact nanW_nan⟩, ⟨1, rfl⟩⟩
  have hB' : ¬ (5 : Int) < (a0.size : Int) := by omega
  have hidx1 : ∀ h : 1 < a0.size, ((a0[1]'h).toNat : Int) = bt a0 1 := fun h => by unfold bt; rw [dif_pos (show (Int.toNat 1) < a0.size from h)]; rfl
  obtain ⟨p1, p2⟩ := bt_range a0 1
  by_cases hC : 1 < a0.size ∧ bt a0 1 ≠ 46
  · have hr2 : Hid (r = nanW) := Lib.hid (hbad.out (.inr (.inr (.inr hC))))
    obtain ⟨hC1, hC2⟩ := hC
    have hC' : (1 : Int) < (a0.size : Int) := by omega
    clear h hbad
    generalize hd : bt a0 1 = d at *
    clear hd
    rcases hA2 with hc | hc
    all_goals
      rw [hc] at hidx0
      clear hc q1 q2
      go_enter Tryz.func35, Tryz.ntmps35
      go_wp2
      go_ret
      exact ⟨_, rfl, .inr ⟨hnn.out _, by rw [hr2.out]; exact nanW_nan⟩, ⟨1, rfl⟩⟩
  have hok : ¬ rwBad a0 := by
    rintro (h1 | h1 | h1 | h1)
    · exact hsz h1
    · rcases hA2 with h2 | h2
      · exact h1.1 h2
      · exact h1.2 h2
    · exact hB h1
    · exact hC h1
  have hrun : Hid (rwR (rwl a0 20 2 ((bt a0 0 - 48) * 1000) 100) = some r) := Lib.hid (by unfold ref14_Weight.f rwN at h; rw [if_neg hok] at h; exact h)
  clear h hbad hok
  by_cases hD : 1 < a0.size
  · have hD' : (1 : Int) < (a0.size : Int) := by omega
    have hE : bt a0 1 = 46 := Classical.byContradiction fun x => hC ⟨hD, x⟩
    clear hC
    rw [hE] at hidx1
    clear hE p1 p2
    rcases hA2 with hc | hc
    · rw [hc] at hidx0 hrun
      clear hc q1 q2
      have hrun : Hid (∃ f, 20 ≤ f + 2 ∧ rwR (rwl a0 f 2 0 100) = some r) := Lib.hid ⟨20, by decide, by simpa using hrun.out⟩
      go_enter Tryz.func35, Tryz.ntmps35
      go_wp2
      go_loopw [4, 5, 6] (fun vn vp vi wr => ∃ (i : Nat) (n pl : Int), vn = .int .i64 n ∧ vp = .int .i64 pl ∧ vi = .int .i64 i ∧ Hid (wr = w) ∧ Hid ((i = 2 ∧ pl = 100) ∨ (i = 3 ∧ pl = 10) ∨ (i = 4 ∧ pl = 1) ∨ (i = 5 ∧ pl = 0)) ∧ Hid (∃ f, 20 ≤ f + i ∧ rwR (rwl a0 f i n pl) = some r)) (fun _ _ i _ => a0.size - (intOf i).toNat)
      case atStart => exact ⟨2, _, 100, rfl, rfl, rfl, Lib.hid rfl, Lib.hid (.inl ⟨rfl, rfl⟩), hrun⟩
      case round =>
        obtain ⟨i, n, pl, rfl, rfl, rfl, hw, hpl, hf⟩ := hrel
        obtain ⟨f, hf1, hf2⟩ := hf.out
        have hi5 : i ≤ 5 := by rcases hpl.out with h | h | h | h <;> omega
        obtain ⟨f, rfl⟩ : ∃ f', f = f' + 1 := ⟨f - 1, by omega⟩
        clear hf
        by_cases hlt : i < a0.size
        · rw [rwl, if_pos hlt] at hf2
          have hltI : (i : Int) < (a0.size : Int) := by omega
          have hidx : ∀ h : i < a0.size, ((a0[i]'h).toNat : Int) = bt a0 i := fun h => by unfold bt; rw [dif_pos (show (Int.toNat (i : Int)) < a0.size from h)]; rfl
          obtain ⟨q1, q2⟩ := bt_range a0 i
          generalize bt a0 i = d at *
          by_cases c1 : d < 48
          · rw [if_pos c1] at hf2
            have hr2 := Lib.hid (rw_nan hf2)
            clear hf2 hf1
            go_wp2
            go_ret
            exact ⟨_, rfl, .inr ⟨hnn.out _, by rw [hr2.out]; exact nanW_nan⟩, ⟨1, by rw [hw.out]; rfl⟩⟩
          · rw [if_neg c1] at hf2
            by_cases c2 : d > 57
            · rw [if_pos c2] at hf2
              have c2' : 57 < d := c2
              have hr2 := Lib.hid (rw_nan hf2)
              clear hf2 hf1
              go_wp2
              go_ret
              exact ⟨_, rfl, .inr ⟨hnn.out _, by rw [hr2.out]; exact nanW_nan⟩, ⟨1, by rw [hw.out]; rfl⟩⟩
            · rw [if_neg c2] at hf2
              have c2' : ¬ 57 < d := c2
              have hf2 := Lib.hid hf2
              have hf1 := Lib.hid hf1
              rcases hpl.out with ⟨rfl, rfl⟩ | ⟨rfl, rfl⟩ | ⟨rfl, rfl⟩ | ⟨rfl, rfl⟩
              · go_wp2
                go_roundw
                case rel =>
                  exact ⟨3, _, 10, rfl, by go_num, by go_num, hw, Lib.hid (.inr (.inl ⟨rfl, rfl⟩)), Lib.hid ⟨f, by have := hf1.out; omega, by simpa using hf2.out⟩⟩
                case measure => simp [intOf]; omega
              · go_wp2
                go_roundw
                case rel =>
                  exact ⟨4, _, 1, rfl, by go_num, by go_num, hw, Lib.hid (.inr (.inr (.inl ⟨rfl, rfl⟩))), Lib.hid ⟨f, by have := hf1.out; omega, by simpa using hf2.out⟩⟩
                case measure => simp [intOf]; omega
              · go_wp2
                go_roundw
                case rel =>
                  exact ⟨5, _, 0, rfl, by go_num, by go_num, hw, Lib.hid (.inr (.inr (.inr ⟨rfl, rfl⟩))), Lib.hid ⟨f, by have := hf1.out; omega, by simpa using hf2.out⟩⟩
                case measure => simp [intOf]; omega
              · omega
        · rw [rwl, if_neg hlt] at hf2
          have hltI : ¬ (i : Int) < (a0.size : Int) := by omega
          have hf3 : (if n > 1000 then some nanW else if 0 ≤ n then some (fdiv n.toNat) else none) = some r := hf2
          clear hf2 hf1
          by_cases hbig : n > 1000
          · have hr2 : Hid (r = nanW) := Lib.hid (by rw [if_pos hbig] at hf3; exact (Option.some.inj hf3).symm)
            have hbig' : (1000 : Int) < n := hbig
            clear hf3
            go_wp2
            go_ret
            exact ⟨_, rfl, .inr ⟨hnn.out _, by rw [hr2.out]; exact nanW_nan⟩, ⟨1, by rw [hw.out]; rfl⟩⟩
          · by_cases h0 : 0 ≤ n
            · have hr2 : Hid (fdiv n.toNat = r) := Lib.hid (by rw [if_neg hbig, if_pos h0] at hf3; exact Option.some.inj hf3)
              have hbig' : decide ((1000 : Int) < n) = false := decide_eq_false hbig
              have hbig2 : ¬ (1000 : Int) < n := hbig
              have hq := fun (t : TypeId) (w : World) => run_float_arith (P := Tryz.prog) (w := w) .quo t .f64 (floatOfInt .f64 n) 4652007308841189376 _ (fdiv_run n h0 zb42)
              have hconv := fun (w : World) => run_convert_int_float (P := Tryz.prog) w 3 25 .i64 .f64 n (by rw [Tryz.underlying3]; rfl) Tryz.underlying25
              generalize floatOfInt .f64 n = fn at hq hconv
              rw [hr2.out] at hq
              clear hf3
              go_wp2
              go_ret
              exact ⟨_, rfl, .inl rfl, ⟨0, by rw [hw.out]; rfl⟩⟩
            · exact absurd hf3 (by rw [if_neg hbig, if_neg h0]; simp)
    · rw [hc] at hidx0 hrun
      clear hc q1 q2
      have hrun : Hid (∃ f, 20 ≤ f + 2 ∧ rwR (rwl a0 f 2 1000 100) = some r) := Lib.hid ⟨20, by decide, by simpa using hrun.out⟩
      go_enter Tryz.func35, Tryz.ntmps35
      go_wp2
      go_loopw [4, 5, 6] (fun vn vp vi wr => ∃ (i : Nat) (n pl : Int), vn = .int .i64 n ∧ vp = .int .i64 pl ∧ vi = .int .i64 i ∧ Hid (wr = w) ∧ Hid ((i = 2 ∧ pl = 100) ∨ (i = 3 ∧ pl = 10) ∨ (i = 4 ∧ pl = 1) ∨ (i = 5 ∧ pl = 0)) ∧ Hid (∃ f, 20 ≤ f + i ∧ rwR (rwl a0 f i n pl) = some r)) (fun _ _ i _ => a0.size - (intOf i).toNat)
      case atStart => exact ⟨2, _, 100, rfl, rfl, rfl, Lib.hid rfl, Lib.hid (.inl ⟨rfl, rfl⟩), hrun⟩
      case round =>
        obtain ⟨i, n, pl, rfl, rfl, rfl, hw, hpl, hf⟩ := hrel
        obtain ⟨f, hf1, hf2⟩ := hf.out
        have hi5 : i ≤ 5 := by rcases hpl.out with h | h | h | h <;> omega
        obtain ⟨f, rfl⟩ : ∃ f', f = f' + 1 := ⟨f - 1, by omega⟩
        clear hf
        by_cases hlt : i < a0.size
        · rw [rwl, if_pos hlt] at hf2
          have hltI : (i : Int) < (a0.size : Int) := by omega
          have hidx : ∀ h : i < a0.size, ((a0[i]'h).toNat : Int) = bt a0 i := fun h => by unfold bt; rw [dif_pos (show (Int.toNat (i : Int)) < a0.size from h)]; rfl
          obtain ⟨q1, q2⟩ := bt_range a0 i
          generalize bt a0 i = d at *
          by_cases c1 : d < 48
          · rw [if_pos c1] at hf2
            have hr2 := Lib.hid (rw_nan hf2)
            clear hf2 hf1
            go_wp2
            go_ret
            exact ⟨_, rfl, .inr ⟨hnn.out _, by rw [hr2.out]; exact nanW_nan⟩, ⟨1, by rw [hw.out]; rfl⟩⟩
          · rw [if_neg c1] at hf2
            by_cases c2 : d > 57
            · rw [if_pos c2] at hf2
              have c2' : 57 < d := c2
              have hr2 := Lib.hid (rw_nan hf2)
              clear hf2 hf1
              go_wp2
              go_ret
              exact ⟨_, rfl, .inr ⟨hnn.out _, by rw [hr2.out]; exact nanW_nan⟩, ⟨1, by rw [hw.out]; rfl⟩⟩
            · rw [if_neg c2] at hf2
              have c2' : ¬ 57 < d := c2
              have hf2 := Lib.hid hf2
              have hf1 := Lib.hid hf1
              rcases hpl.out with ⟨rfl, rfl⟩ | ⟨rfl, rfl⟩ | ⟨rfl, rfl⟩ | ⟨rfl, rfl⟩
              · go_wp2
                go_roundw
                case rel =>
                  exact ⟨3, _, 10, rfl, by go_num, by go_num, hw, Lib.hid (.inr (.inl ⟨rfl, rfl⟩)), Lib.hid ⟨f, by have := hf1.out; omega, by simpa using hf2.out⟩⟩
                case measure => simp [intOf]; omega
              · go_wp2
                go_roundw
                case rel =>
                  exact ⟨4, _, 1, rfl, by go_num, by go_num, hw, Lib.hid (.inr (.inr (.inl ⟨rfl, rfl⟩))), Lib.hid ⟨f, by have := hf1.out; omega, by simpa using hf2.out⟩⟩
                case measure => simp [intOf]; omega
              · go_wp2
                go_roundw
                case rel =>
                  exact ⟨5, _, 0, rfl, by go_num, by go_num, hw, Lib.hid (.inr (.inr (.inr ⟨rfl, rfl⟩))), Lib.hid ⟨f, by have := hf1.out; omega, by simpa using hf2.out⟩⟩
                case measure => simp [intOf]; omega
              · omega
        · rw [rwl, if_neg hlt] at hf2
          have hltI : ¬ (i : Int) < (a0.size : Int) := by omega
          have hf3 : (if n > 1000 then some nanW else if 0 ≤ n then some (fdiv n.toNat) else none) = some r := hf2
          clear hf2 hf1
          by_cases hbig : n > 1000
          · have hr2 : Hid (r = nanW) := Lib.hid (by rw [if_pos hbig] at hf3; exact (Option.some.inj hf3).symm)
            have hbig' : (1000 : Int) < n := hbig
            clear hf3
            go_wp2
            go_ret
            exact ⟨_, rfl, .inr ⟨hnn.out _, by rw [hr2.out]; exact nanW_nan⟩, ⟨1, by rw [hw.out]; rfl⟩⟩
          · by_cases h0 : 0 ≤ n
            · have hr2 : Hid (fdiv n.toNat = r) := Lib.hid (by rw [if_neg hbig, if_pos h0] at hf3; exact Option.some.inj hf3)
              have hbig' : decide ((1000 : Int) < n) = false := decide_eq_false hbig
              have hbig2 : ¬ (1000 : Int) < n := hbig
              have hq := fun (t : TypeId) (w : World) => run_float_arith (P := Tryz.prog) (w := w) .quo t .f64 (floatOfInt .f64 n) 4652007308841189376 _ (fdiv_run n h0 zb42)
              have hconv := fun (w : World) => run_convert_int_float (P := Tryz.prog) w 3 25 .i64 .f64 n (by rw [Tryz.underlying3]; rfl) Tryz.underlying25
              generalize floatOfInt .f64 n = fn at hq hconv
              rw [hr2.out] at hq
              clear hf3
              go_wp2
              go_ret
              exact ⟨_, rfl, .inl rfl, ⟨0, by rw [hw.out]; rfl⟩⟩
            · exact absurd hf3 (by rw [if_neg hbig, if_neg h0]; simp)
  · have hD' : ¬ (1 : Int) < (a0.size : Int) := by omega
    clear hC hidx1 p1 p2
    rcases hA2 with hc | hc
    · rw [hc] at hidx0 hrun
      clear hc q1 q2
      have hrun : Hid (∃ f, 20 ≤ f + 2 ∧ rwR (rwl a0 f 2 0 100) = some r) := Lib.hid ⟨20, by decide, by simpa using hrun.out⟩
      go_enter Tryz.func35, Tryz.ntmps35
      go_wp2
      go_loopw [4, 5, 6] (fun vn vp vi wr => ∃ (i : Nat) (n pl : Int), vn = .int .i64 n ∧ vp = .int .i64 pl ∧ vi = .int .i64 i ∧ Hid (wr = w) ∧ Hid ((i = 2 ∧ pl = 100) ∨ (i = 3 ∧ pl = 10) ∨ (i = 4 ∧ pl = 1) ∨ (i = 5 ∧ pl = 0)) ∧ Hid (∃ f, 20 ≤ f + i ∧ rwR (rwl a0 f i n pl) = some r)) (fun _ _ i _ => a0.size - (intOf i).toNat)
      case atStart => exact ⟨2, _, 100, rfl, rfl, rfl, Lib.hid rfl, Lib.hid (.inl ⟨rfl, rfl⟩), hrun⟩
      case round =>
        obtain ⟨i, n, pl, rfl, rfl, rfl, hw, hpl, hf⟩ := hrel
        obtain ⟨f, hf1, hf2⟩ := hf.out
        have hi5 : i ≤ 5 := by rcases hpl.out with h | h | h | h <;> omega
        obtain ⟨f, rfl⟩ : ∃ f', f = f' + 1 := ⟨f - 1, by omega⟩
        clear hf
        by_cases hlt : i < a0.size
        · exact absurd hlt (by rcases hpl.out with h | h | h | h <;> omega)
        · rw [rwl, if_neg hlt] at hf2
          have hltI : ¬ (i : Int) < (a0.size : Int) := by omega
          have hf3 : (if n > 1000 then some nanW else if 0 ≤ n then some (fdiv n.toNat) else none) = some r := hf2
          clear hf2 hf1
          by_cases hbig : n > 1000
          · have hr2 : Hid (r = nanW) := Lib.hid (by rw [if_pos hbig] at hf3; exact (Option.some.inj hf3).symm)
            have hbig' : (1000 : Int) < n := hbig
            clear hf3
            go_wp2
            go_ret
            exact ⟨_, rfl, .inr ⟨hnn.out _, by rw [hr2.out]; exact nanW_nan⟩, ⟨1, by rw [hw.out]; rfl⟩⟩
          · by_cases h0 : 0 ≤ n
            · have hr2 : Hid (fdiv n.toNat = r) := Lib.hid (by rw [if_neg hbig, if_pos h0] at hf3; exact Option.some.inj hf3)
              have hbig' : decide ((1000 : Int) < n) = false := decide_eq_false hbig
              have hbig2 : ¬ (1000 : Int) < n := hbig
              have hq := fun (t : TypeId) (w : World) => run_float_arith (P := Tryz.prog) (w := w) .quo t .f64 (floatOfInt .f64 n) 4652007308841189376 _ (fdiv_run n h0 zb42)
              have hconv := fun (w : World) => run_convert_int_float (P := Tryz.prog) w 3 25 .i64 .f64 n (by rw [Tryz.underlying3]; rfl) Tryz.underlying25
              generalize floatOfInt .f64 n = fn at hq hconv
              rw [hr2.out] at hq
              clear hf3
              go_wp2
              go_ret
              exact ⟨_, rfl, .inl rfl, ⟨0, by rw [hw.out]; rfl⟩⟩
            · exact absurd hf3 (by rw [if_neg hbig, if_neg h0]; simp)
    · rw [hc] at hidx0 hrun
      clear hc q1 q2
      have hrun : Hid (∃ f, 20 ≤ f + 2 ∧ rwR (rwl a0 f 2 1000 100) = some r) := Lib.hid ⟨20, by decide, by simpa using hrun.out⟩
      go_enter Tryz.func35, Tryz.ntmps35
      go_wp2
      go_loopw [4, 5, 6] (fun vn vp vi wr => ∃ (i : Nat) (n pl : Int), vn = .int .i64 n ∧ vp = .int .i64 pl ∧ vi = .int .i64 i ∧ Hid (wr = w) ∧ Hid ((i = 2 ∧ pl = 100) ∨ (i = 3 ∧ pl = 10) ∨ (i = 4 ∧ pl = 1) ∨ (i = 5 ∧ pl = 0)) ∧ Hid (∃ f, 20 ≤ f + i ∧ rwR (rwl a0 f i n pl) = some r)) (fun _ _ i _ => a0.size - (intOf i).toNat)
      case atStart => exact ⟨2, _, 100, rfl, rfl, rfl, Lib.hid rfl, Lib.hid (.inl ⟨rfl, rfl⟩), hrun⟩
      case round =>
        obtain ⟨i, n, pl, rfl, rfl, rfl, hw, hpl, hf⟩ := hrel
        obtain ⟨f, hf1, hf2⟩ := hf.out
        have hi5 : i ≤ 5 := by rcases hpl.out with h | h | h | h <;> omega
        obtain ⟨f, rfl⟩ : ∃ f', f = f' + 1 := ⟨f - 1, by omega⟩
        clear hf
        by_cases hlt : i < a0.size
        · exact absurd hlt (by rcases hpl.out with h | h | h | h <;> omega)
        · rw [rwl, if_neg hlt] at hf2
          have hltI : ¬ (i : Int) < (a0.size : Int) := by omega
          have hf3 : (if n > 1000 then some nanW else if 0 ≤ n then some (fdiv n.toNat) else none) = some r := hf2
          clear hf2 hf1
          by_cases hbig : n > 1000
          · have hr2 : Hid (r = nanW) := Lib.hid (by rw [if_pos hbig] at hf3; exact (Option.some.inj hf3).symm)
            have hbig' : (1000 : Int) < n := hbig
            clear hf3
            go_wp2
            go_ret
            exact ⟨_, rfl, .inr ⟨hnn.out _, by rw [hr2.out]; exact nanW_nan⟩, ⟨1, by rw [hw.out]; rfl⟩⟩
          · by_cases h0 : 0 ≤ n
            · have hr2 : Hid (fdiv n.toNat = r) := Lib.hid (by rw [if_neg hbig, if_pos h0] at hf3; exact Option.some.inj hf3)
              have hbig' : decide ((1000 : Int) < n) = false := decide_eq_false hbig
              have hbig2 : ¬ (1000 : Int) < n := hbig
              have hq := fun (t : TypeId) (w : World) => run_float_arith (P := Tryz.prog) (w := w) .quo t .f64 (floatOfInt .f64 n) 4652007308841189376 _ (fdiv_run n h0 zb42)
              have hconv := fun (w : World) => run_convert_int_float (P := Tryz.prog) w 3 25 .i64 .f64 n (by rw [Tryz.underlying3]; rfl) Tryz.underlying25
              generalize floatOfInt .f64 n = fn at hq hconv
              rw [hr2.out] at hq
              clear hf3
              go_wp2
              go_ret
              exact ⟨_, rfl, .inl rfl, ⟨0, by rw [hw.out]; rfl⟩⟩
            · exact absurd hf3 (by rw [if_neg hbig, if_neg h0]; simp)
end Go.Proofs.YtghfbhobpodoeaaGreatDoor.O
/- SpRwz -/
namespace Go.Proofs.YtghfbhobpodoeaaGreatDoor.Sp
open Go Go.RowKit Go.Proofs.YtghfbhobpodoeaaGreatDoorW.PrintWords Go.Proofs.YtghfbhobpodoeaaGreatDoorW.PrintLast Go.Proofs.YtghfbhobpodoeaaGreatDoor.O Go.Proofs.YtghfbhobpodoeaaGreatDoor.P
set_option linter.unusedVariables false
set_option linter.unusedSimpArgs false
theorem rwl_end (s : L) (f i : Nat) (n pl : Int) (h : s.length ≤ i) : rwl (mk s) (f + 1) i n pl = some n := by
  rw [rwl, mk_size, if_neg (by omega)]
theorem rwl_dig (s : L) (f i : Nat) (n pl : Int) (d : UInt8) (h : i < s.length) (hd : s.drop i = d :: s.drop (i + 1)) (hg : digB d = true) : rwl (mk s) (f + 1) i n pl = rwl (mk s) f (i + 1) (wrap64 (n + ((d.toNat : Int) - 48) * pl)) (pl / 10) := by
  obtain ⟨b, hb1, hb2⟩ := mk_bt s i h
  obtain rfl : b = d := by rw [hd] at hb1; exact (List.cons.inj hb1).1.symm
  unfold digB at hg
  simp only [Bool.and_eq_true, decide_eq_true_eq] at hg
  rw [rwl, mk_size, if_pos h, hb2, if_neg (by omega), if_neg (by omega)]
theorem rwl_bad (s : L) (f i : Nat) (n pl : Int) (d : UInt8) (h : i < s.length) (hd : s.drop i = d :: s.drop (i + 1)) (hg : digB d = false) : rwl (mk s) (f + 1) i n pl = none := by
  obtain ⟨b, hb1, hb2⟩ := mk_bt s i h
  obtain rfl : b = d := by rw [hd] at hb1; exact (List.cons.inj hb1).1.symm
  unfold digB at hg
  rw [rwl, mk_size, if_pos h, hb2]
  by_cases h1 : (b.toNat : Int) < 48
  · rw [if_pos h1]
  · rw [if_neg h1, if_pos ?_]
    by_cases h2 : (b.toNat : Int) > 57
    · exact h2
    · have : (decide (48 ≤ b.toNat) && decide (b.toNat ≤ 57)) = true := by
        rw [decide_eq_true (by omega), decide_eq_true (by omega)]; rfl
      rw [this] at hg
      cases hg
theorem rwR_nat (n : Nat) : rwR (some (n : Int)) = some (if n > 1000 then nanW else fdiv n) := by
  unfold rwR
  by_cases h : n > 1000
  · rw [if_pos h]
    simp only
    rw [if_pos (by omega)]
  · rw [if_neg h]
    simp only
    rw [if_neg (by omega), if_pos (by omega), Int.toNat_natCast]
theorem digs_of {c : UInt8} (h : digB c = true) : 48 ≤ c.toNat ∧ c.toNat ≤ 57 := by
  unfold digB at h
  simpa using h
set_option maxHeartbeats 4000000 in
theorem main_rw (c : UInt8) (b : L) (hc : c = 48 ∨ c = 49) (hb : b.length ≤ 3) : rwR (rwl (mk (c :: 46 :: b)) 20 2 (((c.toNat : Int) - 48) * 1000) 100) = some (if b.all digB = false then nanW else if numN 0 ([c] ++ padD b) > 1000 then nanW else fdiv (numN 0 ([c] ++ padD b))) := by
  have hcd : 48 ≤ c.toNat ∧ c.toNat ≤ 49 := by rcases hc with rfl | rfl <;> decide
  have e10 : (100 : Int) / 10 = 10 := rfl
  have e1 : (10 : Int) / 10 = 1 := rfl
  match b, hb with
  | [], _ =>
    have hv : ((c.toNat : Int) - 48) * 1000 = ((numN 0 ([c] ++ padD []) : Nat) : Int) := by
      have : numN 0 ([c] ++ padD []) = (c.toNat - 48) * 1000 := by
        show ((((0 * 10 + (c.toNat - 48)) * 10 + (48 - 48)) * 10 + (48 - 48)) * 10 + (48 - 48)) = _
        omega
      rw [this]
      omega
    rw [rwl_end [c, 46] 19 2 _ _ (Nat.le_refl _), if_neg (show ¬ (([] : L).all digB = false) by simp), hv]
    exact rwR_nat _
  | [d], _ =>
    cases hd : digB d with
    | false => rw [rwl_bad _ 19 2 _ _ d (by simp) rfl hd, if_pos (by simp [hd])]; rfl
    | true =>
      have h1 := digs_of hd
      have hv : ((c.toNat : Int) - 48) * 1000 + ((d.toNat : Int) - 48) * 100 = ((numN 0 ([c] ++ padD [d]) : Nat) : Int) := by
        have : numN 0 ([c] ++ padD [d]) = (c.toNat - 48) * 1000 + (d.toNat - 48) * 100 := by
          show (((0 * 10 + (c.toNat - 48)) * 10 + (d.toNat - 48)) * 10 + (48 - 48)) * 10 + (48 - 48) = _
          omega
        rw [this]
        omega
      rw [rwl_dig _ 19 2 _ _ d (by simp) rfl hd, rwl_end [c, 46, d] 18 3 _ _ (Nat.le_refl _), wrap_id (by omega) (by omega), if_neg (by simp [hd]), hv]
      exact rwR_nat _
  | [d, e], _ =>
    cases hd : digB d with
    | false => rw [rwl_bad _ 19 2 _ _ d (by simp) rfl hd, if_pos (by simp [hd])]; rfl
    | true =>
      have h1 := digs_of hd
      rw [rwl_dig _ 19 2 _ _ d (by simp) rfl hd, wrap_id (by omega) (by omega), e10]
      cases he : digB e with
      | false => rw [rwl_bad _ 18 3 _ _ e (by simp) rfl he, if_pos (by simp [hd, he])]; rfl
      | true =>
        have h2 := digs_of he
        have hv : ((c.toNat : Int) - 48) * 1000 + ((d.toNat : Int) - 48) * 100 + ((e.toNat : Int) - 48) * 10 = ((numN 0 ([c] ++ padD [d, e]) : Nat) : Int) := by
          have : numN 0 ([c] ++ padD [d, e]) = (c.toNat - 48) * 1000 + (d.toNat - 48) * 100 + (e.toNat - 48) * 10 := by
            show (((0 * 10 + (c.toNat - 48)) * 10 + (d.toNat - 48)) * 10 + (e.toNat - 48)) * 10 + (48 - 48) = _
            omega
          rw [this]
          omega
        rw [rwl_dig _ 18 3 _ _ e (by simp) rfl he, rwl_end [c, 46, d, e] 17 4 _ _ (Nat.le_refl _), wrap_id (by omega) (by omega), if_neg (by simp [hd, he]), hv]
        exact rwR_nat _
  | [d, e, g], _ =>
    cases hd : digB d with
    | false => rw [rwl_bad _ 19 2 _ _ d (by simp) rfl hd, if_pos (by simp [hd])]; rfl
    | true =>
      have h1 := digs_of hd
      rw [rwl_dig _ 19 2 _ _ d (by simp) rfl hd, wrap_id (by omega) (by omega), e10]
      cases he : digB e with
      | false => rw [rwl_bad _ 18 3 _ _ e (by simp) rfl he, if_pos (by simp [hd, he])]; rfl
      | true =>
        have h2 := digs_of he
        rw [rwl_dig _ 18 3 _ _ e (by simp) rfl he, wrap_id (by omega) (by omega), e1]
        cases hg : digB g with
        | false => rw [rwl_bad _ 17 4 _ _ g (by simp) rfl hg, if_pos (by simp [hd, he, hg])]; rfl
        | true =>
          have h3 := digs_of hg
          have hv : ((c.toNat : Int) - 48) * 1000 + ((d.toNat : Int) - 48) * 100 + ((e.toNat : Int) - 48) * 10 + ((g.toNat : Int) - 48) * 1 = ((numN 0 ([c] ++ padD [d, e, g]) : Nat) : Int) := by
            have : numN 0 ([c] ++ padD [d, e, g]) = (c.toNat - 48) * 1000 + (d.toNat - 48) * 100 + (e.toNat - 48) * 10 + (g.toNat - 48) := by
              show (((0 * 10 + (c.toNat - 48)) * 10 + (d.toNat - 48)) * 10 + (e.toNat - 48)) * 10 + (g.toNat - 48) = _
              omega
            rw [this]
            omega
          rw [rwl_dig _ 17 4 _ _ g (by simp) rfl hg, rwl_end [c, 46, d, e, g] 16 5 _ _ (Nat.le_refl _), wrap_id (by omega) (by omega), if_neg (by simp [hd, he, hg]), hv]
          exact rwR_nat _
  | _ :: _ :: _ :: _ :: _, h => simp at h
theorem bt_one (c d : UInt8) (r : L) : bt (mk (c :: d :: r)) 1 = (d.toNat : Int) := by
  obtain ⟨b, h1, h2⟩ := mk_bt (c :: d :: r) 1 (by simp)
  obtain rfl : d = b := (List.cons.inj h1).1
  exact h2
theorem bad_none {s : L} (h : rwBad (mk s)) : ref14_Weight.f (mk s) = some nanW := by
  unfold ref14_Weight.f rwN
  rw [if_pos h]
  rfl
theorem c489 (c : UInt8) (h : ¬ (c = 48 ∨ c = 49)) (r : L) : rwBad (mk (c :: r)) := by
  refine .inr (.inl ?_)
  rw [bt_head]
  exact ⟨fun x => h (.inl ((u8c c 48 (by decide)).1 x)), fun x => h (.inr ((u8c c 49 (by decide)).1 x))⟩
theorem c46 (c d : UInt8) (h : d ≠ 46) (r : L) : rwBad (mk (c :: d :: r)) := by
  refine .inr (.inr (.inr ⟨by rw [mk_size]; simp, ?_⟩))
  rw [bt_one]
  exact fun x => h ((u8c d 46 (by decide)).1 x)
theorem rweiF (s : L) : ref14_Weight.f (mk s) = some (weiL s) := by
  rcases index1 46 s with ⟨h, _⟩ | ⟨a, b, rfl, ha, _⟩
  · have hcut : Lib.cut s [46] = (s, [], false) := cut1_none h
    by_cases hw : s = [48] ∨ s = [49]
    · rcases hw with rfl | rfl <;> decide +kernel
    · have hwei : weiL s = nanW := by
        unfold weiL
        rw [hcut, if_pos (.inl ⟨fun x => hw (.inl x), fun x => hw (.inr x)⟩)]
      rw [hwei]
      refine bad_none ?_
      match s, h, hw with
      | [], _, _ => exact .inl rfl
      | [c], _, hw => exact c489 c (fun x => hw (by rcases x with rfl | rfl <;> simp)) []
      | c :: d :: r, h, _ => exact c46 c d (fun e => h (by rw [e]; simp)) r
  · have hcut : Lib.cut (a ++ 46 :: b) [46] = (a, b, true) := cut1_some a b ha
    by_cases hw : a = [48] ∨ a = [49]
    · obtain ⟨c, rfl, hc⟩ : ∃ c, a = [c] ∧ (c = 48 ∨ c = 49) := by
        rcases hw with rfl | rfl
        · exact ⟨48, rfl, .inl rfl⟩
        · exact ⟨49, rfl, .inr rfl⟩
      have hne : ¬ (([c] : L) ≠ [48] ∧ ([c] : L) ≠ [49]) := by
        rcases hc with rfl | rfl <;> simp
      by_cases hl : 3 < b.length
      · have hwei : weiL ([c] ++ 46 :: b) = nanW := by
          unfold weiL
          rw [hcut, if_pos (.inr (.inl hl))]
        rw [hwei]
        exact bad_none (.inr (.inr (.inl (by rw [mk_size]; simp; omega))))
      · have hwei : weiL ([c] ++ 46 :: b) = if b.all digB = false then nanW else if numN 0 ([c] ++ padD b) > 1000 then nanW else fdiv (numN 0 ([c] ++ padD b)) := by
          unfold weiL
          rw [hcut]
          by_cases hb : b.all digB = false
          · rw [if_pos (.inr (.inr hb)), if_pos hb]
          · rw [if_neg (fun x => by rcases x with x | x | x; exact hne x; exact hl x; exact hb x), if_neg hb]
        rw [hwei]
        have hnb : ¬ rwBad (mk ([c] ++ 46 :: b)) := by
          show ¬ rwBad (mk (c :: 46 :: b))
          rintro (x | x | x | x)
          · rw [mk_size] at x; simp at x
          · rw [bt_head] at x
            rcases hc with rfl | rfl
            · exact x.1 rfl
            · exact x.2 rfl
          · rw [mk_size] at x; simp at x; omega
          · rw [bt_one] at x
            exact x.2 rfl
        unfold ref14_Weight.f rwN
        rw [if_neg hnb]
        show rwR (rwl (mk (c :: 46 :: b)) 20 2 ((bt (mk (c :: 46 :: b)) 0 - 48) * 1000) 100) = _
        rw [bt_head]
        exact main_rw c b hc (by omega)
    · have hwei : weiL (a ++ 46 :: b) = nanW := by
        unfold weiL
        rw [hcut, if_pos (.inl ⟨fun x => hw (.inl x), fun x => hw (.inr x)⟩)]
      rw [hwei]
      refine bad_none ?_
      match a, ha, hw with
      | [], _, _ => exact c489 46 (by decide) b
      | [c], _, hw => exact c489 c (fun x => hw (by rcases x with rfl | rfl <;> simp)) (46 :: b)
      | c :: d :: r, h, _ => exact c46 c d (fun e => h (by rw [e]; simp)) (r ++ 46 :: b)
end Go.Proofs.YtghfbhobpodoeaaGreatDoor.Sp
/- Orrn -/
namespace Go.Proofs.YtghfbhobpodoeaaGreatDoor.O
open Go.RowKit Go.Proofs.YtghfbhobpodoeaaGreatDoorW.PrintWords Go.Proofs.YtghfbhobpodoeaaGreatDoorW.PrintLast Go.Proofs.YtghfbhobpodoeaaGreatDoorW.PrintMore Go.Proofs.YtghfbhobpodoeaaGreatDoor.P Go.Proofs.YtghfbhobpodoeaaGreatDoor.B
set_option linter.unusedVariables false
set_option linter.unusedSimpArgs false
attribute [local go_sem] run_store_float
def Sim : List S71 → List S71 → Prop
  | [], [] => True
  | x :: xs, y :: ys => (x.f0 = y.f0 ∧ x.f2 = y.f2 ∧ WordIs x.f1 y.f1) ∧ Sim xs ys
  | _, _ => False
theorem Sim.len : ∀ {a b : List S71}, Sim a b → a.length = b.length
  | [], [], _ => rfl
  | _ :: _, _ :: _, h => congrArg (· + 1) (Sim.len h.2)
  | [], _ :: _, h => h.elim
  | _ :: _, [], h => h.elim
theorem Sim.snoc {x y : S71} (h : x.f0 = y.f0 ∧ x.f2 = y.f2 ∧ WordIs x.f1 y.f1) : ∀ {a b : List S71}, Sim a b → Sim (a ++ [x]) (b ++ [y])
  | [], [], _ => ⟨h, trivial⟩
  | _ :: _, _ :: _, g => ⟨g.1, Sim.snoc h g.2⟩
  | [], _ :: _, g => g.elim
  | _ :: _, [], g => g.elim
def rrgOne (k : Nat) (t : ByteArray) : Option (Option S71) := (broadsheetref13_Parse.f k t).bind fun p =>
  if p.2.2.2 = 0 then (broadsheetref13_Param.f k p.1 p.2.1 p.2.2.1 (⟨#[113]⟩ : ByteArray)).bind fun q =>
    (if q.2 = true then ref14_Weight.f q.1 else some one64).bind fun x => some (some ⟨⟨p.1, p.2.1, p.2.2.1⟩, x, narrowF p.1 p.2.1 p.2.2.1⟩)
  else some none
def rrgs (k : Nat) : List ByteArray → List S71 → Option (List S71)
  | [], out => some out
  | t :: r, out => (rrgOne k t).bind fun o => match o with
    | none => rrgs k r out
    | some x => rrgs k r (out ++ [x])
def ref14_Ranges.f (k : Nat) (a0 : ByteArray) : Option (List S71) := (broadsheetref14_Split.f k a0).bind fun l => if l.length ≤ 1000000000000 then rrgs k l [] else none
/-- What stands of one range while it is made: the type's record, the range's record. -/
structure RTt (W2 : World) (gm : Nat) (a b : ByteArray) (A : Option Addr) (n c : Nat) (wt : Nat) (nr : Int) (W : World) : Prop where
  m : W.heap[gm]? = some (.cells #[.string a, .string b, .slice A n c] 40 (0, 0))
  r : W.heap[gm + 1]? = some (.cells #[.string a, .string b, .slice A n c, .float .f64 wt, .int .i64 nr] 71 (0, 0))
  bel : Below W2.heap.size W2 W
  ge : W2.heap.size ≤ gm
theorem RTt.step {W2 W W1 : World} {gm n c wt : Nat} {a b : ByteArray} {A : Option Addr} {nr : Int} (h : RTt W2 gm a b A n c wt nr W) (hb : Below W.heap.size W W1) : RTt W2 gm a b A n c wt nr W1 :=
  ⟨blk_below h.m hb, blk_below h.r hb, below_step h.bel hb, h.ge⟩
theorem RTt.setw {W2 W : World} {gm n c wt : Nat} {a b : ByteArray} {A : Option Addr} {nr : Int} (h : RTt W2 gm a b A n c wt nr W) (x : Nat) : RTt W2 gm a b A n c x nr (W.setCell ⟨gm + 1, 3, none⟩ (.float .f64 x)) :=
  ⟨(Below.heap_setCell W ⟨gm + 1, 3, none⟩ _ gm zb45).trans h.m, blk_put h.r 3 (.float .f64 x) rfl, h.bel.setCell (p := ⟨gm + 1, 3, none⟩) (by show W2.heap.size ≤ gm + 1; have := h.ge; omega) _, h.ge⟩
theorem RTt.setn {W2 W : World} {gm n c wt : Nat} {a b : ByteArray} {A : Option Addr} {nr : Int} (h : RTt W2 gm a b A n c wt nr W) (x : Int) : RTt W2 gm a b A n c wt x (W.setCell ⟨gm + 1, 4, none⟩ (.int .i64 x)) :=
  ⟨(Below.heap_setCell W ⟨gm + 1, 4, none⟩ _ gm zb45).trans h.m, blk_put h.r 4 (.int .i64 x) rfl, h.bel.setCell (p := ⟨gm + 1, 4, none⟩) (by show W2.heap.size ≤ gm + 1; have := h.ge; omega) _, h.ge⟩
theorem RTt.al {W2 W : World} {gm n c wt : Nat} {a b : ByteArray} {A : Option Addr} {nr : Int} (h : RTt W2 gm a b A n c wt nr W) (o : Obj) : RTt W2 gm a b A n c wt nr (W.alloc o) := h.step (below_alloc (Below.refl _ _) o)
theorem RTt.c3 {W2 W : World} {gm n c wt : Nat} {a b : ByteArray} {A : Option Addr} {nr : Int} (h : RTt W2 gm a b A n c wt nr W) : W.cell? ⟨gm + 1, 3, none⟩ = some (.float .f64 wt) := (blk_cell h.r 3).trans rfl
theorem RTt.c4 {W2 W : World} {gm n c wt : Nat} {a b : ByteArray} {A : Option Addr} {nr : Int} (h : RTt W2 gm a b A n c wt nr W) : W.cell? ⟨gm + 1, 4, none⟩ = some (.int .i64 nr) := (blk_cell h.r 4).trans rfl
theorem RTt.fz {W2 W : World} {gm n c wt : Nat} {a b : ByteArray} {A : Option Addr} {nr : Int} (h : RTt W2 gm a b A n c wt nr W) (i : Nat) : W.frozen? ⟨gm + 1, i, none⟩ = false := blk_frozen h.r i
theorem rtt_new (w : World) (a b : ByteArray) (A : Option Addr) (n c wt : Nat) (nr : Int) : RTt w w.heap.size a b A n c wt nr ((w.alloc (.cells #[.string a, .string b, .slice A n c] 40)).alloc (.cells #[.string a, .string b, .slice A n c, .float .f64 wt, .int .i64 nr] 71)) :=
  ⟨blk_alloc (heap_alloc_new w _) _, by have := heap_alloc_new (w.alloc (.cells #[.string a, .string b, .slice A n c] 40)) (.cells #[.string a, .string b, .slice A n c, .float .f64 wt, .int .i64 nr] 71); simpa using this, below_alloc (below_alloc (Below.refl _ _) _) _, Nat.le_refl _⟩
set_option maxHeartbeats 4000000 in
set_option maxRecDepth 100000 in
theorem ref14_Ranges.calls (k : Nat) (a0 : ByteArray) (r : List S71) (w : World) (h : ref14_Ranges.f k a0 = some r) :
    Calls Tryz.prog 20 #[.string a0] w fun e w' => ∃ (v0_ : Value) (r' : List S71), e = .returned v0_ ∧ Sim r r' ∧ Kd.S k71 71 w' w.heap.size (fun _ => True) v0_ r' ∧ Below w.heap.size w w' := by
  unfold ref14_Ranges.f at h
  obtain ⟨L, hL, h⟩ := Option.bind_eq_some_iff.1 h
  split at h
  case isFalse => exact absurd h zb45
  rename_i hlen
  have HS := Lib.hid (fun W => broadsheetref14_Split.calls k a0 L W hL)
  have hres := Lib.hid h
  clear h hL
  have hS0 : Hid (∀ W : World, Kd.S k71 71 W w.heap.size (fun _ => True) (.slice none 0 0) []) := Lib.hid (fun W => ⟨fun _ => 0, fun _ _ => trivial, [], World.ownsRow_nil W w.heap.size 71 5, ⟨by simp, by simp⟩⟩)
  go_enter Tryz.func20, Tryz.ntmps20
  go_wp2_with (go_at_call 14; refine (HS.out _).mono ?_; rintro e w1 ⟨vL, rfl, hvL, hb1⟩; obtain ⟨AL, cL, rfl, hcL, hrL⟩ := Kd.R_reads hvL; have hRL := Lib.hid hvL; have hb1 := Lib.hid hb1; clear hvL hrL)
  go_loopw [3, 5] (fun vo i wr => ∃ (j : Nat) (out out' : List S71), i = .int .i64 j ∧ Hid (j ≤ L.length ∧ out.length ≤ j ∧ rrgs k (L.drop j) out = some r) ∧ Hid (Sim out out') ∧ Hid (Kd.R Kd.string 9 wr w.heap.size (fun _ => True) (.slice AL L.length cL) L) ∧ Hid (Kd.S k71 71 wr w.heap.size (fun _ => True) vo out') ∧ Hid (Below w.heap.size w wr)) (fun _ i _ => L.length - (intOf i).toNat)
  case atStart =>
    exact ⟨0, [], [], rfl, Lib.hid ⟨Nat.zero_le _, Nat.le_refl _, hres.out⟩, Lib.hid trivial, Lib.hid (Kd.R_lower hRL.out zb45), Lib.hid (hS0.out _), hb1⟩
  case round =>
    obtain ⟨j, out, out', rfl, hq, hSim, hRL2, hS, hB⟩ := hrel
    obtain ⟨h1, h2, h3⟩ := hq.out
    have hsl := Sim.len hSim.out
    clear hq hRL hS0 hb1
    obtain ⟨B0, hB0⟩ : ∃ B0, wr.heap.size = B0 := ⟨_, rfl⟩
    have hB0 := Lib.hid hB0
    by_cases hlt : j < L.length
    · have hjl : (j : Int) < (L.length : Int) := by omega
      obtain ⟨t, ht⟩ : ∃ t, t = rdOf ByteArray.empty L j := ⟨_, rfl⟩
      have hd : L.drop j = t :: L.drop (j + 1) := by
        rw [List.drop_eq_getElem_cons hlt, ht]
        simp [rdOf, List.getD_eq_getElem?_getD, hlt]
      rw [hd] at h3
      obtain ⟨o, ho, h4⟩ := Option.bind_eq_some_iff.1 h3
      obtain ⟨⟨r1, r2, r3, r4⟩, hp, h5⟩ := Option.bind_eq_some_iff.1 ho
      have HP := Lib.hid (fun W => broadsheetref13_Parse.calls k t r1 r2 r3 r4 W hp)
      have h4 := Lib.hid h4
      have h5 := Lib.hid h5
      have hw1 : wrap64 ((j : Int) + 1) = ((j + 1 : Nat) : Int) := by unfold wrap64; omega
      obtain ⟨_, _, hC⟩ := Kd.R_reads' hRL2.out
      obtain ⟨ad, e0, hcell⟩ := Kd.at_string hC j zb42 hjl
      rw [← ht] at hcell
      have hcell : wr.cell? (ad.add j) = some (.string t) := hcell
      subst e0
      clear h3 hd ho hp hC ht
      by_cases h0 : r4 = 0
      · subst h0
        obtain ⟨x, q1, q2, hpar, hx, h6⟩ : ∃ x q1 q2, broadsheetref13_Param.f k r1 r2 r3 (⟨#[113]⟩ : ByteArray) = some (q1, q2) ∧ (if q2 = true then ref14_Weight.f q1 else some one64) = some x ∧ rrgs k (L.drop (j + 1)) (out ++ [⟨⟨r1, r2, r3⟩, x, narrowF r1 r2 r3⟩]) = some r := by
          have h7 := h5.out
          simp only [if_true] at h7
          obtain ⟨⟨q1, q2⟩, hpar, h8⟩ := Option.bind_eq_some_iff.1 h7
          obtain ⟨x, hx, h9⟩ := Option.bind_eq_some_iff.1 h8
          obtain rfl := Option.some.inj h9
          exact ⟨x, q1, q2, hpar, hx, h4.out⟩
        have HM := Lib.hid (fun (W : World) (A : Option Addr) (c : Nat) (h1 : Kd.C k50 W A r3.length r3) (h2 : r3.length ≤ c) => broadsheetref13_Param.calls k r1 r2 A c r3 (⟨#[113]⟩ : ByteArray) q1 q2 W h1 h2 hpar)
        have hx := Lib.hid hx
        have h6 := Lib.hid h6
        clear h4 h5 hpar
        go_upto_if 37 with (first | (go_at_call 33; refine (HP.out _).mono ?_; rintro e w2 ⟨v2, rfl, hv2, hb2⟩; obtain ⟨A2, c2, rfl⟩ := Kd.R_slice hv2; have hv2 := Lib.hid hv2; have hb2 := Lib.hid hb2) | (go_at_call 34; refine (HM.out _ A2 c2 (Kd.C_below (Kd.R_reads' hv2.out).2.2 (below_alloc (below_alloc (Below.refl _ _) _) _)) (Kd.R_reads' hv2.out).2.1).mono ?_; rintro e w3 ⟨rfl, hb3⟩; have hst : Hid (RTt w2 w2.heap.size r1 r2 A2 r3.length c2 one64 0 w3) := Lib.hid (RTt.step (rtt_new w2 r1 r2 A2 r3.length c2 one64 0) hb3); clear hb3))
        go_cut [] (fun wc => ∃ b, Hid (WordIs x b) ∧ Hid (RTt w2 w2.heap.size r1 r2 A2 r3.length c2 b 0 wc))
        case first =>
          have hc3 := hst.out.c3
          have hf3 := hst.out.fz 3
          cases q2 with
          | true =>
            have HW := Lib.hid (fun W => ref14_Weight.calls q1 x W hx.out)
            go_wp2_with (go_at_call 35; refine (HW.out _).mono ?_; rintro e w4 ⟨b, rfl, hwb, hd4⟩; have hwb := Lib.hid hwb; have hst4 := Lib.hid (RTt.step hst.out hd4.below); have hc4 := hst4.out.c3; have hf4 := hst4.out.fz 3; clear hd4)
            go_meet
            case rel => exact ⟨b, hwb, Lib.hid (RTt.setw hst4.out b)⟩
          | false =>
            obtain rfl : one64 = x := by simpa using hx.out
            go_wp2
            go_meet
            case rel => exact ⟨_, Lib.hid (.inl rfl), hst⟩
        case rest =>
          obtain ⟨b, hwb, hcut⟩ := hcut
          clear hst HM HP hx
          go_wp2
          go_loopw [11] (fun i wr2 => ∃ (n : Nat) (nr : Int), i = .int .i64 n ∧ Hid (n ≤ r3.length ∧ cntP (r3.drop n) nr = cntP r3 0) ∧ Hid (RTt w2 w2.heap.size r1 r2 A2 r3.length c2 b nr wr2)) (fun i _ => r3.length - (intOf i).toNat)
          case atStart => exact ⟨0, 0, rfl, Lib.hid ⟨Nat.zero_le _, rfl⟩, hcut⟩
          case round =>
            obtain ⟨n, nr, rfl, hn, hst⟩ := hrel
            clear hcut
            obtain ⟨n1, n2⟩ := hn.out
            clear hn
            have n2 := Lib.hid n2
            have y2 := (blk_cell hst.out.m 2).trans (show _ = some (.slice A2 r3.length c2) from rfl)
            by_cases hlt2 : n < r3.length
            · have hnl : (n : Int) < (r3.length : Int) := by omega
              have hC := Kd.C_below (Kd.R_reads' hv2.out).2.2 hst.out.bel
              obtain ⟨ad2, e2, hx0, hx1⟩ := at_T50 hC n zb42 hnl
              obtain ⟨p, hp⟩ : ∃ p, p = rd_T50 r3 n := ⟨_, rfl⟩
              rw [← hp] at hx0 hx1
              have hd : r3.drop n = p :: r3.drop (n + 1) := by
                rw [List.drop_eq_getElem_cons hlt2, hp]
                simp [rd_T50, List.getD_eq_getElem?_getD, hlt2]
              have n3 : Hid (cntP (r3.drop (n + 1)) (if p.f0.toList = [113] then nr else wrap64 (nr + 1)) = cntP r3 0) := Lib.hid (by have := n2.out; rw [hd] at this; exact this)
              have hw2 : wrap64 ((n : Int) + 1) = ((n + 1 : Nat) : Int) := by
                have := hC.2.1
                unfold maxLen at this
                unfold wrap64
                omega
              have hca := hst.out.c4
              have hfa := hst.out.fz 4
              have hx0 : wr.cell? (ad2.add (n * 2)) = some (.string p.f0) := hx0
              subst e2
              clear hp hd n2 hC hx1
              by_cases h113 : p.f0.toList = [113]
              · have n4 : Hid (cntP (r3.drop (n + 1)) nr = cntP r3 0) := Lib.hid (by have := n3.out; rwa [if_pos h113] at this)
                have b1 : (p.f0.toList == [113]) = true := by rw [h113]; rfl
                have b2 : (p.f0.toList != [113]) = false := by simp [bne, b1]
                clear h113 n3
                go_wp2
                go_roundw
                case rel => exact ⟨n + 1, nr, by go_num, Lib.hid ⟨hlt2, n4.out⟩, hst⟩
                case measure => exact meas_ n _ hlt2 hw2
              · have n4 : Hid (cntP (r3.drop (n + 1)) (wrap64 (nr + 1)) = cntP r3 0) := Lib.hid (by have := n3.out; rwa [if_neg h113] at this)
                have b1 : (p.f0.toList == [113]) = false := by simpa using h113
                have b2 : (p.f0.toList != [113]) = true := by simp [bne, b1]
                clear h113 n3
                go_wp2
                go_roundw
                case rel => exact ⟨n + 1, wrap64 (nr + 1), by go_num, Lib.hid ⟨hlt2, n4.out⟩, Lib.hid (hst.out.setn _)⟩
                case measure => exact meas_ n _ hlt2 hw2
            · obtain rfl : n = r3.length := by omega
              have n3 : nr = cntP r3 0 := by have := n2.out; rwa [List.drop_of_length_le (Nat.le_refl _)] at this
              subst n3
              clear n2
              have y0 := (blk_cell hst.out.m 0).trans (show _ = some (.string r1) from rfl)
              have hc4 := hst.out.c4
              have hf4 := hst.out.fz 4
              go_upto_if 61 with fail
              go_cut [] (fun wc2 => Hid (RTt w2 w2.heap.size r1 r2 A2 r3.length c2 b (hund r1 (cntP r3 0)) wc2))
              case first =>
                cases c1 : (r1.toList == [42])
                all_goals
                  have d1 : (r1.toList != [42]) = !(r1.toList == [42]) := rfl
                  rw [c1] at d1
                · have e1 : Hid (hund r1 (cntP r3 0) = wrap64 (cntP r3 0 + 100)) := Lib.hid (by unfold hund; rw [if_neg (by simpa using c1)])
                  generalize cntP r3 0 = nr at *
                  go_wp2
                  go_meet
                  case rel => exact Lib.hid (by rw [e1.out]; exact hst.out.setn _)
                · have e1 : Hid (hund r1 (cntP r3 0) = cntP r3 0) := Lib.hid (by unfold hund; rw [if_pos (by simpa using c1)])
                  go_wp2
                  go_meet
                  case rel => exact Lib.hid (by rw [e1.out]; exact hst.out)
              case rest =>
                clear hst y0 y2 hc4 hf4
                have y1 := (blk_cell hcut.out.m 1).trans (show _ = some (.string r2) from rfl)
                have hc4 := hcut.out.c4
                have hf4 := hcut.out.fz 4
                go_upto_if 68 with fail
                have hcut0 := hcut
                clear hcut
                go_cut [] (fun wc2 => Hid (RTt w2 w2.heap.size r1 r2 A2 r3.length c2 b (narrowF r1 r2 r3) wc2))
                case first =>
                  have hN : Hid (narrowF r1 r2 r3 = hund r2 (hund r1 (cntP r3 0))) := Lib.hid rfl
                  generalize hund r1 (cntP r3 0) = nr at *
                  generalize narrowF r1 r2 r3 = N at *
                  cases c1 : (r2.toList == [42])
                  all_goals
                    have d1 : (r2.toList != [42]) = !(r2.toList == [42]) := rfl
                    rw [c1] at d1
                  · have e1 : Hid (N = wrap64 (nr + 100)) := Lib.hid (by rw [hN.out]; unfold hund; rw [if_neg (by simpa using c1)])
                    clear hN
                    go_wp2
                    go_meet
                    case rel => exact Lib.hid (by rw [e1.out]; exact hcut0.out.setn _)
                  · have e1 : Hid (N = nr) := Lib.hid (by rw [hN.out]; unfold hund; rw [if_pos (by simpa using c1)])
                    clear hN
                    go_wp2
                    go_meet
                    case rel => exact Lib.hid (by rw [e1.out]; exact hcut0.out)
                case rest =>
                  clear hcut0 y1 hc4 hf4
                  have z0 := (blk_cell hcut.out.r 0).trans (show _ = some (.string r1) from rfl)
                  have z1 := (blk_cell hcut.out.r 1).trans (show _ = some (.string r2) from rfl)
                  have z2 := (blk_cell hcut.out.r 2).trans (show _ = some (.slice A2 r3.length c2) from rfl)
                  have z3 := hcut.out.c3
                  have z4 := hcut.out.c4
                  generalize hNg : narrowF r1 r2 r3 = N at *
                  have hNg := Lib.hid hNg
                  have hgv : Hid (Kd.R k50 50 wc w.heap.size (fun q => B0 ≤ q) (.slice A2 r3.length c2) r3) := Lib.hid (Kd.R_lower (Kd.R_mono (Kd.R_bound (Kd.R_below hv2.out hcut.out.bel)) (fun q hq => by have h1 := hq.2.1; have h2 := hB0.out; omega)) hB.out.size)
                  have hSO : Hid (Kd.S k71 71 wc w.heap.size (fun q => True ∧ ¬ B0 ≤ q) u3 out') := Lib.hid (Kd.S_below (Kd.S_below (Kd.S_mono (Kd.S_bound hS.out) (fun q hq => ⟨trivial, by have h1 := hq.2.2.1; have h2 := hB0.out; omega⟩)) hb2.out) hcut.out.bel)
                  have hRO : Hid (Kd.R Kd.string 9 wc w.heap.size (fun _ => True) (.slice (some ad) L.length cL) L) := Lib.hid (Kd.R_below (Kd.R_below hRL2.out hb2.out) hcut.out.bel)
                  have hBc : Hid (Below w.heap.size w wc) := Lib.hid (below_step (below_step hB.out hb2.out) hcut.out.bel)
                  have hne3 : Hid (∀ q, B0 ≤ q → some q ≠ u3.ownBlock) := Lib.hid (fun q hq e => by have h1 := Kd.S_lt hS.out q e.symm; have h2 := hB0.out; omega)
                  have hlen2 := Lib.hid (show (out'.length + 1) * 72 ≤ 140737488355328 by omega)
                  go_wp2_with (at_builtin; refine Kd.S_append k71 (w0 := w) w.heap.size rfl (.tmp 73) (.tmp 75) 46 71 (.agg #[.string ⟨#[]⟩, .string ⟨#[]⟩, .slice none 0 0, .float .f64 0, .int .i64 0]) 72 rfl Tryz.underlying46 zb9 rfl zb47 zb42 u3 out' ⟨⟨r1, r2, r3⟩, b, N⟩ [.string r1, .string r2, .slice A2 r3.length c2, .float .f64 b, .int .i64 N] (fun _ => True) (fun q => B0 ≤ q) rfl rfl (k71_mkM wc w.heap.size _ ⟨⟨r1, r2, r3⟩, b, N⟩ hgv.out) (fun q hq => ⟨trivial, hne3.out q hq⟩) (fun _ _ => trivial) hSO.out hBc.out hBc.out.size hlen2.out ?_; intro v1 w5 hS5 hB5 hg5 hor5; have hS5 := Lib.hid hS5; have hB5 := Lib.hid hB5; have hg5 := Lib.hid hg5; clear hor5)
                  go_roundw
                  case rel => exact ⟨j + 1, out ++ [⟨⟨r1, r2, r3⟩, x, N⟩], out' ++ [⟨⟨r1, r2, r3⟩, b, N⟩], by go_num, Lib.hid ⟨hlt, by rw [List.length_append]; exact Nat.add_le_add_right h2 1, h6.out⟩, Lib.hid (Sim.snoc (x := ⟨⟨r1, r2, r3⟩, x, N⟩) (y := ⟨⟨r1, r2, r3⟩, b, N⟩) ⟨rfl, rfl, hwb.out⟩ hSim.out), Lib.hid (Kd.R_over' hRO.out (Kd.S_typed hSO.out) zb47 hg5.out), hS5, hB5⟩
                  case measure => exact measN_ j _ hlt
      · have hne : (r4 == 0) = false := by simpa using h0
        have hne2 : (r4 != 0) = true := by simpa using h0
        have h6 : Hid (rrgs k (L.drop (j + 1)) out = some r) := Lib.hid (by
          have := h5.out
          simp only [if_neg h0] at this
          obtain rfl := Option.some.inj this
          exact h4.out)
        go_wp2_with (go_at_call 33; refine (HP.out _).mono ?_; rintro e w2 ⟨v2, rfl, hv2, hb2⟩; obtain ⟨A2, c2, rfl⟩ := Kd.R_slice hv2; have hb2 := Lib.hid hb2; clear hv2)
        go_roundw
        case rel => exact ⟨j + 1, out, out', by go_num, Lib.hid ⟨by omega, by omega, h6.out⟩, hSim, Lib.hid (Kd.R_below hRL2.out (below_alloc hb2.out _)), Lib.hid (Kd.S_below hS.out (below_alloc hb2.out _)), Lib.hid (below_step hB.out (below_alloc hb2.out _))⟩
        case measure => simp [intOf]; omega
    · obtain rfl : j = L.length := by omega
      have h6 : Hid (out = r) := Lib.hid (by rw [List.drop_of_length_le (Nat.le_refl _)] at h3; exact Option.some.inj h3)
      clear h3
      go_wp2
      go_ret
      refine ⟨_, out', rfl, by rw [← h6.out]; exact hSim.out, hS.out, hB.out⟩
end Go.Proofs.YtghfbhobpodoeaaGreatDoor.O
/- SpQh -/
namespace Go.Proofs.YtghfbhobpodoeaaGreatDoor.Sp
open Go Go.RowKit Go.Proofs.YtghfbhobpodoeaaGreatDoorW.PrintWords Go.Proofs.YtghfbhobpodoeaaGreatDoorW.PrintLast Go.Proofs.YtghfbhobpodoeaaGreatDoor.O Go.Proofs.YtghfbhobpodoeaaGreatDoor.P
set_option linter.unusedVariables false
set_option linter.unusedSimpArgs false
def rrgB (r : Rng) : S71 := ⟨medB r.m, r.w, r.n⟩
theorem rrgF (t : L) (k : Nat) (ht : t.length ≤ 1000000) (hk : 5000000 ≤ k) : rrgOne k (mk t) = some ((rngL t).map rrgB) := by
  unfold rrgOne rngL
  obtain ⟨q, hq, hp⟩ := rmparseF t k (by omega) (by omega)
  rw [hq]
  simp only [Option.bind_some]
  cases hm : mparse t with
  | none =>
    rw [hm] at hp
    have e : q.2.2.2 = 130 := hp
    rw [if_neg (by rw [e]; decide)]
    rfl
  | some m =>
    rw [hm] at hp
    obtain rfl : q = (mk m.t, mk m.s, pairsB m.ps, 0) := hp
    have hs := mparse_sm 1000000 t m hm ht
    simp only [if_true]
    rw [show (⟨#[113]⟩ : ByteArray) = mk [113] from rfl, rparamF _ _ m.ps [113] k (by have := hs.n; omega) (by have := hs.n; omega)]
    simp only [Option.bind_some]
    cases hv : param m.ps [113] with
    | none =>
      simp only [Bool.false_eq_true, if_false, Option.bind_some, Option.map_some]
      rw [narrow_eq]
      simp only [rrgB, medB, hv]
    | some v =>
      have hvl : v.length ≤ 1000000 := by
        unfold param at hv
        obtain ⟨p, hp, rfl⟩ := Option.map_eq_some_iff.1 hv
        exact (hs.p p (List.mem_of_find?_eq_some hp)).2
      simp only [if_true]
      rw [rweiF v]
      simp only [Option.bind_some, Option.map_some]
      rw [narrow_eq]
      simp only [rrgB, medB, hv]
theorem rrgsF (k : Nat) (hk : 5000000 ≤ k) : ∀ (l : List L) (out : List S71), (∀ x ∈ l, x.length ≤ 1000000) → rrgs k (l.map mk) out = some (out ++ (l.filterMap rngL).map rrgB) := by
  intro l
  induction l with
  | nil => intro out _; simp [rrgs]
  | cons t r ih =>
    intro out h
    rw [List.map_cons, rrgs, rrgF t k (h t List.mem_cons_self) hk, Option.bind_some]
    have h' : ∀ x ∈ r, x.length ≤ 1000000 := fun x hx => h x (List.mem_cons_of_mem _ hx)
    cases hr : rngL t with
    | none => simp only [Option.map_none]; rw [ih out h', List.filterMap_cons_none hr]
    | some x => simp only [Option.map_some]; rw [ih _ h', List.filterMap_cons_some hr]; simp
theorem rrangesF (s : L) (k : Nat) (hs : s.length ≤ 100000) (hk : 5000000 ≤ k) : ref14_Ranges.f k (mk s) = some ((rangesL s).map rrgB) := by
  unfold ref14_Ranges.f
  rw [rsplitF s k (by omega) (by omega), Option.bind_some, List.length_map, if_pos (by have := (split_sm s).2; omega), rrgsF k hk _ _ (fun x hx => by have := (split_sm s).1 x hx; omega)]
  rfl
end Go.Proofs.YtghfbhobpodoeaaGreatDoor.Sp
/- Px18 -/
namespace Go.Proofs.YtghfbhobpodoeaaGreatDoor.P
open Go.Proofs.YtghfbhobpodoeaaGreatDoor.B
open Go.RowKit Go.Proofs.YtghfbhobpodoeaaGreatDoorW.PrintWords Go.Proofs.YtghfbhobpodoeaaGreatDoorW.PrintLast Go.Proofs.YtghfbhobpodoeaaGreatDoorW.PrintMore
attribute [local go_sem] run_store_float str_leq str_gtr str_geq max2_int min2_int max_two min_two max_three min_three max_four min_four
set_option linter.unusedVariables false
set_option linter.unusedSimpArgs false
def broadsheetlaw14_have.f  : Option ((List (S40))) := some (([(⟨(⟨#[116, 101, 120, 116]⟩ : ByteArray), (⟨#[112, 108, 97, 105, 110]⟩ : ByteArray), ([] : List (S50))⟩ : S40), (⟨(⟨#[116, 101, 120, 116]⟩ : ByteArray), (⟨#[104, 116, 109, 108]⟩ : ByteArray), ([] : List (S50))⟩ : S40), (⟨(⟨#[105, 109, 97, 103, 101]⟩ : ByteArray), (⟨#[112, 110, 103]⟩ : ByteArray), ([] : List (S50))⟩ : S40), (⟨(⟨#[97, 112, 112, 108, 105, 99, 97, 116, 105, 111, 110]⟩ : ByteArray), (⟨#[97, 116, 111, 109, 43, 120, 109, 108]⟩ : ByteArray), (([(⟨(⟨#[116, 121, 112, 101]⟩ : ByteArray), (⟨#[101, 110, 116, 114, 121]⟩ : ByteArray)⟩ : S50)] : List (S50)))⟩ : S40)] : List (S40)))
set_option maxHeartbeats 8000000 in
set_option maxRecDepth 100000 in
theorem broadsheetlaw14_have.calls  (r : List (S40)) (w : World) (h : broadsheetlaw14_have.f  = some r) :
  Calls Tryz.prog 9 #[] w fun e w' => ∃ v0_ : Value, e = .returned (v0_) ∧ Kd.N k40 40 w' w.heap.size (fun k_ => (w.heap.size ≤ k_)) v0_ r ∧ Below w.heap.size w w' := by
 have hu40 := Tryz.underlying40
 have hu50 := Tryz.underlying50
 have HB := Aside0.mk (Below.refl w.heap.size w)
 have H : (some (([(⟨(⟨#[116, 101, 120, 116]⟩ : ByteArray), (⟨#[112, 108, 97, 105, 110]⟩ : ByteArray), ([] : List (S50))⟩ : S40), (⟨(⟨#[116, 101, 120, 116]⟩ : ByteArray), (⟨#[104, 116, 109, 108]⟩ : ByteArray), ([] : List (S50))⟩ : S40), (⟨(⟨#[105, 109, 97, 103, 101]⟩ : ByteArray), (⟨#[112, 110, 103]⟩ : ByteArray), ([] : List (S50))⟩ : S40), (⟨(⟨#[97, 112, 112, 108, 105, 99, 97, 116, 105, 111, 110]⟩ : ByteArray), (⟨#[97, 116, 111, 109, 43, 120, 109, 108]⟩ : ByteArray), (([(⟨(⟨#[116, 121, 112, 101]⟩ : ByteArray), (⟨#[101, 110, 116, 114, 121]⟩ : ByteArray)⟩ : S50)] : List (S50)))⟩ : S40)] : List (S40)))) = some r := h
 clear h
 obtain ⟨y171, hy171⟩ : ∃ y_ : List (S50), y_ = (([(⟨(⟨#[116, 121, 112, 101]⟩ : ByteArray), (⟨#[101, 110, 116, 114, 121]⟩ : ByteArray)⟩ : S50)] : List (S50))) := ⟨_, rfl⟩
 replace H : (some (([(⟨(⟨#[116, 101, 120, 116]⟩ : ByteArray), (⟨#[112, 108, 97, 105, 110]⟩ : ByteArray), ([] : List (S50))⟩ : S40), (⟨(⟨#[116, 101, 120, 116]⟩ : ByteArray), (⟨#[104, 116, 109, 108]⟩ : ByteArray), ([] : List (S50))⟩ : S40), (⟨(⟨#[105, 109, 97, 103, 101]⟩ : ByteArray), (⟨#[112, 110, 103]⟩ : ByteArray), ([] : List (S50))⟩ : S40), (⟨(⟨#[97, 112, 112, 108, 105, 99, 97, 116, 105, 111, 110]⟩ : ByteArray), (⟨#[97, 116, 111, 109, 43, 120, 109, 108]⟩ : ByteArray), y171⟩ : S40)] : List (S40)))) = some r := by first | (rw [hy171]; with_reducible exact H) | (have H2_ := (Option.bind_some _ _).symm.trans H; rw [hy171]; with_reducible exact H2_) | (have H2_ := (Option.bind_some _ _).symm.trans H; with_reducible exact H2_) | with_reducible exact H | (rw [hy171]; exact H) | exact H
 have Ny171 := Aside0.mk hy171
 clear hy171
 obtain ⟨y174, hy174⟩ : ∃ y_ : List (S40), y_ = (([(⟨(⟨#[116, 101, 120, 116]⟩ : ByteArray), (⟨#[112, 108, 97, 105, 110]⟩ : ByteArray), ([] : List (S50))⟩ : S40), (⟨(⟨#[116, 101, 120, 116]⟩ : ByteArray), (⟨#[104, 116, 109, 108]⟩ : ByteArray), ([] : List (S50))⟩ : S40), (⟨(⟨#[105, 109, 97, 103, 101]⟩ : ByteArray), (⟨#[112, 110, 103]⟩ : ByteArray), ([] : List (S50))⟩ : S40), (⟨(⟨#[97, 112, 112, 108, 105, 99, 97, 116, 105, 111, 110]⟩ : ByteArray), (⟨#[97, 116, 111, 109, 43, 120, 109, 108]⟩ : ByteArray), y171⟩ : S40)] : List (S40))) := ⟨_, rfl⟩
 replace H : (some y174) = some r := by first | (rw [hy174]; with_reducible exact H) | (have H2_ := (Option.bind_some _ _).symm.trans H; rw [hy174]; with_reducible exact H2_) | (have H2_ := (Option.bind_some _ _).symm.trans H; with_reducible exact H2_) | with_reducible exact H | (rw [hy174]; exact H) | exact H
 have Ny174 := Aside0.mk hy174
 clear hy174
 obtain rfl := Option.some.inj H
 go_enter Tryz.func9, Tryz.ntmps9
 go_wp2_with (first | ((with_reducible refine gate_dst (N := 5) rfl ?_); refine Kd.R_lit k50 _ 50 ?hg (N := 5) ?hd (xs := ([(⟨(⟨#[116, 121, 112, 101]⟩ : ByteArray), (⟨#[101, 110, 116, 114, 121]⟩ : ByteArray)⟩ : S50)] : List (S50))) (inner := [.string (⟨#[116, 121, 112, 101]⟩ : ByteArray), .string (⟨#[101, 110, 116, 114, 121]⟩ : ByteArray)]) (ok := fun _ => True) (okp := fun _ => True) ?hr ?hp (fun _ hk => hk) trivial (Below.refl _ _) (Nat.le_refl _) zb45 ?_; (case hd => rfl); (case hg => rfl); (case hr => first | (go_simp; done) | (go_simp; rfl)); (case hp => exact (Reps.c2 (show Kd.M k50 _ _ _ (⟨(⟨#[116, 121, 112, 101]⟩ : ByteArray), (⟨#[101, 110, 116, 114, 121]⟩ : ByteArray)⟩ : S50) [.string (⟨#[116, 121, 112, 101]⟩ : ByteArray), .string (⟨#[101, 110, 116, 114, 121]⟩ : ByteArray)] from (k50_mkM _ _ _ (⟨(⟨#[116, 121, 112, 101]⟩ : ByteArray), (⟨#[101, 110, 116, 114, 121]⟩ : ByteArray)⟩ : S50) )) (Reps.none _ _))); intro v172 w1 ho2 hb hg_ hnew_; clear hg_ hnew_; (first | rw [← Ny171.out] at ho2 | (simp only [Int.reduceToNat] at ho2; rw [← Ny171.out] at ho2)); have n0_ := Aside0.mk (Kd.R_lower (Kd.R_newM (M := fun k_ => (w.heap.size ≤ k_)) ho2 (below_size zb0) (fun k_ h_ => h_)) (below_size zb0)); have n1_ := Aside0.mk (below_step zb0 hb); clear HB; have HO173 := n0_; have HB := n1_; clear n0_ n1_; clear hb ho2; obtain ⟨Ao3, co3, eo3⟩ := Kd.R_slice HO173.out; subst eo3) | ((with_reducible refine gate_dst (N := 7) rfl ?_); refine Kd.N_lit k40 _ 40 ?hg (N' := 7) ?hd (xs := ([(⟨(⟨#[116, 101, 120, 116]⟩ : ByteArray), (⟨#[112, 108, 97, 105, 110]⟩ : ByteArray), ([] : List (S50))⟩ : S40), (⟨(⟨#[116, 101, 120, 116]⟩ : ByteArray), (⟨#[104, 116, 109, 108]⟩ : ByteArray), ([] : List (S50))⟩ : S40), (⟨(⟨#[105, 109, 97, 103, 101]⟩ : ByteArray), (⟨#[112, 110, 103]⟩ : ByteArray), ([] : List (S50))⟩ : S40), (⟨(⟨#[97, 112, 112, 108, 105, 99, 97, 116, 105, 111, 110]⟩ : ByteArray), (⟨#[97, 116, 111, 109, 43, 120, 109, 108]⟩ : ByteArray), y171⟩ : S40)] : List (S40))) (inner := [.string (⟨#[116, 101, 120, 116]⟩ : ByteArray), .string (⟨#[112, 108, 97, 105, 110]⟩ : ByteArray), .slice none 0 0, .string (⟨#[116, 101, 120, 116]⟩ : ByteArray), .string (⟨#[104, 116, 109, 108]⟩ : ByteArray), .slice none 0 0, .string (⟨#[105, 109, 97, 103, 101]⟩ : ByteArray), .string (⟨#[112, 110, 103]⟩ : ByteArray), .slice none 0 0, .string (⟨#[97, 112, 112, 108, 105, 99, 97, 116, 105, 111, 110]⟩ : ByteArray), .string (⟨#[97, 116, 111, 109, 43, 120, 109, 108]⟩ : ByteArray), .slice Ao3 y171.length co3]) (ok := (fun k_ => (w.heap.size ≤ k_))) (okp := (fun k_ => (w.heap.size ≤ k_))) ?hr ?hp (fun _ hk => hk) ((show ∀ k_, w1.heap.size ≤ k_ → (fun k_ => (w.heap.size ≤ k_)) k_ from fun k_ hk => (Nat.le_trans (below_size zb0) hk)) _ (Nat.le_refl _)) (Below.refl _ _) (Nat.le_refl _) zb45 ?_; (case hd => rfl); (case hg => rfl); (case hr => first | (go_simp; done) | (go_simp; rfl)); (case hp => exact (Reps.c3 (show Kd.FK k40 _ _ (⟨(⟨#[116, 101, 120, 116]⟩ : ByteArray), (⟨#[112, 108, 97, 105, 110]⟩ : ByteArray), ([] : List (S50))⟩ : S40) [.string (⟨#[116, 101, 120, 116]⟩ : ByteArray), .string (⟨#[112, 108, 97, 105, 110]⟩ : ByteArray), .slice none 0 0] from (k40_mkF _ _ (⟨(⟨#[116, 101, 120, 116]⟩ : ByteArray), (⟨#[112, 108, 97, 105, 110]⟩ : ByteArray), ([] : List (S50))⟩ : S40) (Nat.le_refl _) (Kd.F_nil _ _ _))) (Reps.c3 (show Kd.FK k40 _ _ (⟨(⟨#[116, 101, 120, 116]⟩ : ByteArray), (⟨#[104, 116, 109, 108]⟩ : ByteArray), ([] : List (S50))⟩ : S40) [.string (⟨#[116, 101, 120, 116]⟩ : ByteArray), .string (⟨#[104, 116, 109, 108]⟩ : ByteArray), .slice none 0 0] from (k40_mkF _ _ (⟨(⟨#[116, 101, 120, 116]⟩ : ByteArray), (⟨#[104, 116, 109, 108]⟩ : ByteArray), ([] : List (S50))⟩ : S40) (Nat.le_refl _) (Kd.F_nil _ _ _))) (Reps.c3 (show Kd.FK k40 _ _ (⟨(⟨#[105, 109, 97, 103, 101]⟩ : ByteArray), (⟨#[112, 110, 103]⟩ : ByteArray), ([] : List (S50))⟩ : S40) [.string (⟨#[105, 109, 97, 103, 101]⟩ : ByteArray), .string (⟨#[112, 110, 103]⟩ : ByteArray), .slice none 0 0] from (k40_mkF _ _ (⟨(⟨#[105, 109, 97, 103, 101]⟩ : ByteArray), (⟨#[112, 110, 103]⟩ : ByteArray), ([] : List (S50))⟩ : S40) (Nat.le_refl _) (Kd.F_nil _ _ _))) (Reps.c3 (show Kd.FK k40 _ _ (⟨(⟨#[97, 112, 112, 108, 105, 99, 97, 116, 105, 111, 110]⟩ : ByteArray), (⟨#[97, 116, 111, 109, 43, 120, 109, 108]⟩ : ByteArray), y171⟩ : S40) [.string (⟨#[97, 112, 112, 108, 105, 99, 97, 116, 105, 111, 110]⟩ : ByteArray), .string (⟨#[97, 116, 111, 109, 43, 120, 109, 108]⟩ : ByteArray), .slice Ao3 y171.length co3] from (k40_mkF _ _ (⟨(⟨#[97, 112, 112, 108, 105, 99, 97, 116, 105, 111, 110]⟩ : ByteArray), (⟨#[97, 116, 111, 109, 43, 120, 109, 108]⟩ : ByteArray), y171⟩ : S40) (Kd.R_reads' (Kd.R_mono (ok' := (fun k_ => (w.heap.size ≤ k_))) (HO173.out) (fun k_ hk => hk.1))).2.1 (Kd.R_F (Kd.R_mono (ok' := (fun k_ => (w.heap.size ≤ k_))) (HO173.out) (fun k_ hk => hk.1))))) (Reps.none _ _)))))); intro v175 w4 ho5 hb hg_ hnew_; clear hg_ hnew_; (first | rw [← Ny174.out] at ho5 | (simp only [Int.reduceToNat] at ho5; rw [← Ny174.out] at ho5)); have n0_ := Aside0.mk (Kd.N_lower ho5 (below_size zb0)); have n1_ := Aside0.mk (below_step zb0 hb); clear HB; clear HO173; have HO176 := n0_; have HB := n1_; clear n0_ n1_; clear hb ho5))
 go_ret
 exact ⟨_, by first | rfl | (simp [errW_none, errW_some, bne_nil_] <;> rfl) | (simp [*, errW_none, errW_some] <;> rfl), by (with_reducible repeat (first | apply Kd.N_alloc | apply Kd.N_drewN | apply Kd.N_drew)); exact HO176.out, zb0⟩
end Go.Proofs.YtghfbhobpodoeaaGreatDoor.P
/- Px19 -/
namespace Go.Proofs.YtghfbhobpodoeaaGreatDoor.P
open Go.Proofs.YtghfbhobpodoeaaGreatDoor.B
open Go.RowKit Go.Proofs.YtghfbhobpodoeaaGreatDoorW.PrintWords Go.Proofs.YtghfbhobpodoeaaGreatDoorW.PrintLast Go.Proofs.YtghfbhobpodoeaaGreatDoorW.PrintMore
attribute [local go_sem] run_store_float str_leq str_gtr str_geq max2_int min2_int max_two min_two max_three min_three max_four min_four
set_option linter.unusedVariables false
set_option linter.unusedSimpArgs false
open Go.Proofs.YtghfbhobpodoeaaGreatDoor.O
def broadsheetlaw14_awake.f (k : Nat)  : Option (Bool) := (broadsheetlaw14_have.f).bind fun t177 => (if 2 ≤ (t177.length : Int) then ((quality_Best.f k (⟨#[116, 101, 120, 116, 47, 42, 59, 113, 61, 48, 46, 53, 44, 32, 116, 101, 120, 116, 47, 104, 116, 109, 108, 44, 32, 42, 47, 42, 59, 113, 61, 48, 46, 49]⟩ : ByteArray) (t177.take 2)).bind fun bt185 => ((quality_Weight.f (⟨#[49, 46, 53]⟩ : ByteArray)).bind fun t187 => (if bt185.1 = 1 then (if (FloatKind.f64.format.order bt185.2 4607182418800017408 == some .eq) = true then (if (FloatKind.f64.format.order t187 t187 != some .eq) = true then ((quality_Weight.f (⟨#[48, 46, 53]⟩ : ByteArray)).bind fun t188 => (if (FloatKind.f64.format.order t188 4602678819172646912 == some .eq) = true then ((quality_Clamp.f t187).bind fun t189 => (some (FloatKind.f64.format.order t189 0 == some .eq))) else (some false))) else (some false)) else (some false)) else (some false)))) else (none))
set_option maxHeartbeats 8000000 in
set_option maxRecDepth 100000 in
theorem broadsheetlaw14_awake.calls (k : Nat)  (r : Bool) (w : World) (hG : Glob w) (h : broadsheetlaw14_awake.f k  = some r) :
  Calls Tryz.prog 6 #[] w fun e w' => e = .returned (.bool r) ∧ Below w.heap.size w w' := by
 have HB := Aside0.mk (Below.refl w.heap.size w)
 have hGA := Aside0.mk hG
 clear hG
 have H : ((broadsheetlaw14_have.f).bind fun t177 => (if 2 ≤ (t177.length : Int) then ((quality_Best.f k (⟨#[116, 101, 120, 116, 47, 42, 59, 113, 61, 48, 46, 53, 44, 32, 116, 101, 120, 116, 47, 104, 116, 109, 108, 44, 32, 42, 47, 42, 59, 113, 61, 48, 46, 49]⟩ : ByteArray) (t177.take 2)).bind fun bt185 => ((quality_Weight.f (⟨#[49, 46, 53]⟩ : ByteArray)).bind fun t187 => (if bt185.1 = 1 then (if (FloatKind.f64.format.order bt185.2 4607182418800017408 == some .eq) = true then (if (FloatKind.f64.format.order t187 t187 != some .eq) = true then ((quality_Weight.f (⟨#[48, 46, 53]⟩ : ByteArray)).bind fun t188 => (if (FloatKind.f64.format.order t188 4602678819172646912 == some .eq) = true then ((quality_Clamp.f t187).bind fun t189 => (some (FloatKind.f64.format.order t189 0 == some .eq))) else (some false))) else (some false)) else (some false)) else (some false)))) else (none))) = some r := h
 clear h
 replace H := Option.bind_eq_some_iff.mp H
 obtain ⟨t177, A10, H⟩ := H
 replace H : (if 2 ≤ (t177.length : Int) then ((quality_Best.f k (⟨#[116, 101, 120, 116, 47, 42, 59, 113, 61, 48, 46, 53, 44, 32, 116, 101, 120, 116, 47, 104, 116, 109, 108, 44, 32, 42, 47, 42, 59, 113, 61, 48, 46, 49]⟩ : ByteArray) (t177.take 2)).bind fun bt185 => ((quality_Weight.f (⟨#[49, 46, 53]⟩ : ByteArray)).bind fun t187 => (if bt185.1 = 1 then (if (FloatKind.f64.format.order bt185.2 4607182418800017408 == some .eq) = true then (if (FloatKind.f64.format.order t187 t187 != some .eq) = true then ((quality_Weight.f (⟨#[48, 46, 53]⟩ : ByteArray)).bind fun t188 => (if (FloatKind.f64.format.order t188 4602678819172646912 == some .eq) = true then ((quality_Clamp.f t187).bind fun t189 => (some (FloatKind.f64.format.order t189 0 == some .eq))) else (some false))) else (some false)) else (some false)) else (some false)))) else (none)) = some r := H
 have A1 := Aside0.mk A10
 clear A10
 by_cases c2 : 2 ≤ (t177.length : Int)
 ·rw [if_pos c2] at H
  have c2b0 := eq_true c2
  have c2b1 : decide (2 ≤ (t177.length : Int)) = true := decide_eq_true c2
  clear c2
  obtain ⟨y180, hy180⟩ : ∃ y_ : List (S40), y_ = (t177.take 2) := ⟨_, rfl⟩
  replace H : ((quality_Best.f k (⟨#[116, 101, 120, 116, 47, 42, 59, 113, 61, 48, 46, 53, 44, 32, 116, 101, 120, 116, 47, 104, 116, 109, 108, 44, 32, 42, 47, 42, 59, 113, 61, 48, 46, 49]⟩ : ByteArray) y180).bind fun bt185 => ((quality_Weight.f (⟨#[49, 46, 53]⟩ : ByteArray)).bind fun t187 => (if bt185.1 = 1 then (if (FloatKind.f64.format.order bt185.2 4607182418800017408 == some .eq) = true then (if (FloatKind.f64.format.order t187 t187 != some .eq) = true then ((quality_Weight.f (⟨#[48, 46, 53]⟩ : ByteArray)).bind fun t188 => (if (FloatKind.f64.format.order t188 4602678819172646912 == some .eq) = true then ((quality_Clamp.f t187).bind fun t189 => (some (FloatKind.f64.format.order t189 0 == some .eq))) else (some false))) else (some false)) else (some false)) else (some false)))) = some r := by first | (rw [hy180]; with_reducible exact H) | (have H2_ := (Option.bind_some _ _).symm.trans H; rw [hy180]; with_reducible exact H2_) | (have H2_ := (Option.bind_some _ _).symm.trans H; with_reducible exact H2_) | with_reducible exact H | (rw [hy180]; exact H) | exact H
  have Ny180 := Aside0.mk hy180
  clear hy180
  replace H := Option.bind_eq_some_iff.mp H
  obtain ⟨⟨t185, t186⟩, A30, H⟩ := H
  replace H : ((quality_Weight.f (⟨#[49, 46, 53]⟩ : ByteArray)).bind fun t187 => (if t185 = 1 then (if (FloatKind.f64.format.order t186 4607182418800017408 == some .eq) = true then (if (FloatKind.f64.format.order t187 t187 != some .eq) = true then ((quality_Weight.f (⟨#[48, 46, 53]⟩ : ByteArray)).bind fun t188 => (if (FloatKind.f64.format.order t188 4602678819172646912 == some .eq) = true then ((quality_Clamp.f t187).bind fun t189 => (some (FloatKind.f64.format.order t189 0 == some .eq))) else (some false))) else (some false)) else (some false)) else (some false))) = some r := H
  have A3 := Aside0.mk A30
  clear A30
  replace H := Option.bind_eq_some_iff.mp H
  obtain ⟨t187, A40, H⟩ := H
  replace H : (if t185 = 1 then (if (FloatKind.f64.format.order t186 4607182418800017408 == some .eq) = true then (if (FloatKind.f64.format.order t187 t187 != some .eq) = true then ((quality_Weight.f (⟨#[48, 46, 53]⟩ : ByteArray)).bind fun t188 => (if (FloatKind.f64.format.order t188 4602678819172646912 == some .eq) = true then ((quality_Clamp.f t187).bind fun t189 => (some (FloatKind.f64.format.order t189 0 == some .eq))) else (some false))) else (some false)) else (some false)) else (some false)) = some r := H
  have A4 := Aside0.mk A40
  clear A40
  by_cases c5 : t185 = 1
  ·rw [if_pos c5] at H
   have c5b0 : (t185 == 1) = true := beq_iff_eq.mpr c5
   have c5b1 : (t185 != 1) = false := bne_eq_false_iff_eq.mpr c5
   clear c5
   by_cases c6 : (FloatKind.f64.format.order t186 4607182418800017408 == some .eq) = true
   ·rw [if_pos c6] at H
    have c6b0 : (FloatKind.f64.format.order t186 4607182418800017408 == some .eq) = true := c6
    (try (have c6b1 : decide (FloatKind.f64.format.order t186 4607182418800017408 = some .eq) = true := by simpa using c6))
    (try (have c6b2 : (FloatKind.f64.format.order t186 4607182418800017408 == some .eq) = true := by simpa using c6))
    clear c6
    by_cases c7 : (FloatKind.f64.format.order t187 t187 != some .eq) = true
    ·rw [if_pos c7] at H
     have c7b0 : (FloatKind.f64.format.order t187 t187 != some .eq) = true := c7
     (try (have c7b1 : decide (FloatKind.f64.format.order t187 t187 = some .eq) = false := by simpa using c7))
     (try (have c7b2 : (FloatKind.f64.format.order t187 t187 == some .eq) = false := by simpa using c7))
     (try (have c7b3 : ¬ (FloatKind.f64.format.order t187 t187 = some .eq) := by simpa using c7))
     clear c7
     replace H := Option.bind_eq_some_iff.mp H
     obtain ⟨t188, A80, H⟩ := H
     replace H : (if (FloatKind.f64.format.order t188 4602678819172646912 == some .eq) = true then ((quality_Clamp.f t187).bind fun t189 => (some (FloatKind.f64.format.order t189 0 == some .eq))) else (some false)) = some r := H
     have A8 := Aside0.mk A80
     clear A80
     by_cases c9 : (FloatKind.f64.format.order t188 4602678819172646912 == some .eq) = true
     ·rw [if_pos c9] at H
      have c9b0 : (FloatKind.f64.format.order t188 4602678819172646912 == some .eq) = true := c9
      (try (have c9b1 : decide (FloatKind.f64.format.order t188 4602678819172646912 = some .eq) = true := by simpa using c9))
      (try (have c9b2 : (FloatKind.f64.format.order t188 4602678819172646912 == some .eq) = true := by simpa using c9))
      clear c9
      replace H := Option.bind_eq_some_iff.mp H
      obtain ⟨t189, A100, H⟩ := H
      replace H : (some (FloatKind.f64.format.order t189 0 == some .eq)) = some r := H
      have A10 := Aside0.mk A100
      clear A100
      obtain rfl := Option.some.inj H
      go_enter Tryz.func6, Tryz.ntmps6
      go_wp2_with (first | ((with_reducible refine gate_callee (f := 9) rfl ?_); refine goesL_ (some 5) rfl rfl Tryz.func9 zb9 rfl #[] rfl zb2 ?_; (with_reducible refine (broadsheetlaw14_have.calls  t177 _ A1.out).mono ?_); rintro e w11 ⟨v178, rfl, ho0, hb⟩; refine ⟨_, rfl, ?_⟩; have n0_ := Aside0.mk (Kd.N_lower (Kd.N_mono (ok' := fun k_ => True) ho0 (fun k_ hk_ => trivial)) (below_size zb0)); have n1_ := Aside0.mk (below_step zb0 hb); clear HB; have HO179 := n0_; have HB := n1_; clear n0_ n1_; (try clear hb); (try clear hb2); (try clear hk); (try clear hi); (try clear ho0); obtain ⟨Ao13, co13, eo13⟩ := Kd.N_slice HO179.out; subst eo13; have q12 : (2 : Int) ≤ ((t177.length : Int) : Int) := of_decide_eq_true zb3; obtain ⟨i012, hi012, _, hsz12, _⟩ := info_parts info40; have hroom12 : t177.length ≤ co13 := (Kd.N_reads' HO179.out).2.1; have hC12 : Kd.F k40 _ _ Ao13 t177.length t177 := (Kd.V_at (base := w.heap.size) (Kd.N_V HO179.out)).2.2; have hcut12 := cut_to (P := Tryz.prog) 22 40 .i64 Tryz.underlying22 hi012 Ao13 t177.length co13 2 zb42 q12 hroom12; have hr12 := Kd.F_take (m := 2) hC12 zb42; have hy12 : y180.length = (2 : Int).toNat := (by rw [Ny180.out, List.length_take]; omega); rw [← Ny180.out] at hr12; rw [← hy12] at hcut12; have HO184 := Aside0.mk (show Kd.V k40 40 _ w.heap.size _ (.slice Ao13 y180.length co13) y180 from Kd.V_mk zb42 hr12); have HC184 := Aside0.mk (show y180.length ≤ co13 from by omega); clear hr12 hC12 hroom12 hi012 hsz12; have KY12 := Aside0.mk hy12; clear hy12; replace q12 := eq_true q12) | ((with_reducible refine gate_callee (f := 7) rfl ?_); refine goesL_ (some 7) rfl rfl Tryz.func7 zb9 rfl #[.string (⟨#[116, 101, 120, 116, 47, 42, 59, 113, 61, 48, 46, 53, 44, 32, 116, 101, 120, 116, 47, 104, 116, 109, 108, 44, 32, 42, 47, 42, 59, 113, 61, 48, 46, 49]⟩ : ByteArray), .slice Ao13 y180.length co13] rfl zb2 ?_; (with_reducible refine (quality_Best.calls k (⟨#[116, 101, 120, 116, 47, 42, 59, 113, 61, 48, 46, 53, 44, 32, 116, 101, 120, 116, 47, 104, 116, 109, 108, 44, 32, 42, 47, 42, 59, 113, 61, 48, 46, 49]⟩ : ByteArray) _ _ y180 t185 t186 _ ?side1 ?side2 ?side3 A3.out).mono ?_); (case side1 => repeat (first | exact (Kd.V_reads' HO184.out).2.2 | (with_reducible refine Kd.C_alloc ?_ _) | (with_reducible refine Kd.C_drewN ?_ _) | (with_reducible refine Kd.C_drew ?_))); (case side2 => exact (Kd.V_reads' HO184.out).2.1); (case side3 => exact Glob.below hGA.out zb0); rintro e w14 ⟨rfl, hb⟩; refine ⟨_, rfl, ?_⟩; have n0_ := Aside0.mk (Kd.N_below zb25 hb); have n1_ := Aside0.mk (Kd.V_below zb24 hb); have n2_ := Aside0.mk (below_step zb0 hb); clear HO179; clear HO184; clear HB; have HO179 := n0_; have HO184 := n1_; have HB := n2_; clear n0_ n1_ n2_; (try clear hb); (try clear hb2); (try clear hk); (try clear hi)) | ((with_reducible refine gate_callee (f := 16) rfl ?_); refine goesL_ (some 10) rfl rfl Tryz.func16 zb9 rfl #[.string (⟨#[49, 46, 53]⟩ : ByteArray)] rfl zb2 ?_; (with_reducible refine (quality_Weight.calls (⟨#[49, 46, 53]⟩ : ByteArray) t187 _ ?side1 A4.out).mono ?_); (case side1 => exact Glob.below hGA.out zb0); rintro e w15 ⟨rfl, hb⟩; refine ⟨_, rfl, ?_⟩; have n0_ := Aside0.mk (Kd.N_below zb25 hb); have n1_ := Aside0.mk (Kd.V_below zb24 hb); have n2_ := Aside0.mk (below_step zb0 hb); clear HO179; clear HO184; clear HB; have HO179 := n0_; have HO184 := n1_; have HB := n2_; clear n0_ n1_ n2_; (try clear hb); (try clear hb2); (try clear hk); (try clear hi)) | (go_at_call 16; (with_reducible refine (quality_Weight.calls (⟨#[48, 46, 53]⟩ : ByteArray) t188 _ ?side1 A8.out).mono ?_); (case side1 => exact Glob.below hGA.out zb0); rintro e w16 ⟨rfl, hb⟩; have n0_ := Aside0.mk (Kd.N_below zb25 hb); have n1_ := Aside0.mk (Kd.V_below zb24 hb); have n2_ := Aside0.mk (below_step zb0 hb); clear HO179; clear HO184; clear HB; have HO179 := n0_; have HO184 := n1_; have HB := n2_; clear n0_ n1_ n2_; (try clear hb); (try clear hb2); (try clear hk); (try clear hi)) | (go_at_call 17; (with_reducible refine (quality_Clamp.calls t187 t189 _ A10.out).mono ?_); rintro e w' ⟨rfl, ⟨nd, rfl⟩⟩))
      go_ret
      exact ⟨zb6, zb0⟩
     ·rw [if_neg c9] at H
      have c9b0 : (FloatKind.f64.format.order t188 4602678819172646912 == some .eq) = false := by simpa using c9
      (try (have c9b1 : decide (FloatKind.f64.format.order t188 4602678819172646912 = some .eq) = false := by simpa using c9))
      (try (have c9b2 : (FloatKind.f64.format.order t188 4602678819172646912 == some .eq) = false := by simpa using c9))
      (try (have c9b3 : ¬ (FloatKind.f64.format.order t188 4602678819172646912 = some .eq) := by simpa using c9))
      clear c9
      obtain rfl := Option.some.inj H
      go_enter Tryz.func6, Tryz.ntmps6
      go_wp2_with (first | ((with_reducible refine gate_callee (f := 9) rfl ?_); refine goesL_ (some 5) rfl rfl Tryz.func9 zb9 rfl #[] rfl zb2 ?_; (with_reducible refine (broadsheetlaw14_have.calls  t177 _ A1.out).mono ?_); rintro e w17 ⟨v178, rfl, ho0, hb⟩; refine ⟨_, rfl, ?_⟩; have n0_ := Aside0.mk (Kd.N_lower (Kd.N_mono (ok' := fun k_ => True) ho0 (fun k_ hk_ => trivial)) (below_size zb0)); have n1_ := Aside0.mk (below_step zb0 hb); clear HB; have HO179 := n0_; have HB := n1_; clear n0_ n1_; (try clear hb); (try clear hb2); (try clear hk); (try clear hi); (try clear ho0); obtain ⟨Ao19, co19, eo19⟩ := Kd.N_slice HO179.out; subst eo19; have q18 : (2 : Int) ≤ ((t177.length : Int) : Int) := of_decide_eq_true zb3; obtain ⟨i018, hi018, _, hsz18, _⟩ := info_parts info40; have hroom18 : t177.length ≤ co19 := (Kd.N_reads' HO179.out).2.1; have hC18 : Kd.F k40 _ _ Ao19 t177.length t177 := (Kd.V_at (base := w.heap.size) (Kd.N_V HO179.out)).2.2; have hcut18 := cut_to (P := Tryz.prog) 22 40 .i64 Tryz.underlying22 hi018 Ao19 t177.length co19 2 zb42 q18 hroom18; have hr18 := Kd.F_take (m := 2) hC18 zb42; have hy18 : y180.length = (2 : Int).toNat := (by rw [Ny180.out, List.length_take]; omega); rw [← Ny180.out] at hr18; rw [← hy18] at hcut18; have HO184 := Aside0.mk (show Kd.V k40 40 _ w.heap.size _ (.slice Ao19 y180.length co19) y180 from Kd.V_mk zb42 hr18); have HC184 := Aside0.mk (show y180.length ≤ co19 from by omega); clear hr18 hC18 hroom18 hi018 hsz18; have KY18 := Aside0.mk hy18; clear hy18; replace q18 := eq_true q18) | ((with_reducible refine gate_callee (f := 7) rfl ?_); refine goesL_ (some 7) rfl rfl Tryz.func7 zb9 rfl #[.string (⟨#[116, 101, 120, 116, 47, 42, 59, 113, 61, 48, 46, 53, 44, 32, 116, 101, 120, 116, 47, 104, 116, 109, 108, 44, 32, 42, 47, 42, 59, 113, 61, 48, 46, 49]⟩ : ByteArray), .slice Ao19 y180.length co19] rfl zb2 ?_; (with_reducible refine (quality_Best.calls k (⟨#[116, 101, 120, 116, 47, 42, 59, 113, 61, 48, 46, 53, 44, 32, 116, 101, 120, 116, 47, 104, 116, 109, 108, 44, 32, 42, 47, 42, 59, 113, 61, 48, 46, 49]⟩ : ByteArray) _ _ y180 t185 t186 _ ?side1 ?side2 ?side3 A3.out).mono ?_); (case side1 => repeat (first | exact (Kd.V_reads' HO184.out).2.2 | (with_reducible refine Kd.C_alloc ?_ _) | (with_reducible refine Kd.C_drewN ?_ _) | (with_reducible refine Kd.C_drew ?_))); (case side2 => exact (Kd.V_reads' HO184.out).2.1); (case side3 => exact Glob.below hGA.out zb0); rintro e w20 ⟨rfl, hb⟩; refine ⟨_, rfl, ?_⟩; have n0_ := Aside0.mk (Kd.N_below zb25 hb); have n1_ := Aside0.mk (Kd.V_below zb24 hb); have n2_ := Aside0.mk (below_step zb0 hb); clear HO179; clear HO184; clear HB; have HO179 := n0_; have HO184 := n1_; have HB := n2_; clear n0_ n1_ n2_; (try clear hb); (try clear hb2); (try clear hk); (try clear hi)) | ((with_reducible refine gate_callee (f := 16) rfl ?_); refine goesL_ (some 10) rfl rfl Tryz.func16 zb9 rfl #[.string (⟨#[49, 46, 53]⟩ : ByteArray)] rfl zb2 ?_; (with_reducible refine (quality_Weight.calls (⟨#[49, 46, 53]⟩ : ByteArray) t187 _ ?side1 A4.out).mono ?_); (case side1 => exact Glob.below hGA.out zb0); rintro e w21 ⟨rfl, hb⟩; refine ⟨_, rfl, ?_⟩; have n0_ := Aside0.mk (Kd.N_below zb25 hb); have n1_ := Aside0.mk (Kd.V_below zb24 hb); have n2_ := Aside0.mk (below_step zb0 hb); clear HO179; clear HO184; clear HB; have HO179 := n0_; have HO184 := n1_; have HB := n2_; clear n0_ n1_ n2_; (try clear hb); (try clear hb2); (try clear hk); (try clear hi)) | (go_at_call 16; (with_reducible refine (quality_Weight.calls (⟨#[48, 46, 53]⟩ : ByteArray) t188 _ ?side1 A8.out).mono ?_); (case side1 => exact Glob.below hGA.out zb0); rintro e w22 ⟨rfl, hb⟩; have n0_ := Aside0.mk (Kd.N_below zb25 hb); have n1_ := Aside0.mk (Kd.V_below zb24 hb); have n2_ := Aside0.mk (below_step zb0 hb); clear HO179; clear HO184; clear HB; have HO179 := n0_; have HO184 := n1_; have HB := n2_; clear n0_ n1_ n2_; (try clear hb); (try clear hb2); (try clear hk); (try clear hi)))
      go_ret
      exact ⟨zb6, zb0⟩
    ·rw [if_neg c7] at H
     have c7b0 : (FloatKind.f64.format.order t187 t187 != some .eq) = false := by simpa using c7
     (try (have c7b1 : decide (FloatKind.f64.format.order t187 t187 = some .eq) = true := by simpa using c7))
     (try (have c7b2 : (FloatKind.f64.format.order t187 t187 == some .eq) = true := by simpa using c7))
     clear c7
     obtain rfl := Option.some.inj H
     go_enter Tryz.func6, Tryz.ntmps6
     go_wp2_with (first | ((with_reducible refine gate_callee (f := 9) rfl ?_); refine goesL_ (some 5) rfl rfl Tryz.func9 zb9 rfl #[] rfl zb2 ?_; (with_reducible refine (broadsheetlaw14_have.calls  t177 _ A1.out).mono ?_); rintro e w23 ⟨v178, rfl, ho0, hb⟩; refine ⟨_, rfl, ?_⟩; have n0_ := Aside0.mk (Kd.N_lower (Kd.N_mono (ok' := fun k_ => True) ho0 (fun k_ hk_ => trivial)) (below_size zb0)); have n1_ := Aside0.mk (below_step zb0 hb); clear HB; have HO179 := n0_; have HB := n1_; clear n0_ n1_; (try clear hb); (try clear hb2); (try clear hk); (try clear hi); (try clear ho0); obtain ⟨Ao25, co25, eo25⟩ := Kd.N_slice HO179.out; subst eo25; have q24 : (2 : Int) ≤ ((t177.length : Int) : Int) := of_decide_eq_true zb3; obtain ⟨i024, hi024, _, hsz24, _⟩ := info_parts info40; have hroom24 : t177.length ≤ co25 := (Kd.N_reads' HO179.out).2.1; have hC24 : Kd.F k40 _ _ Ao25 t177.length t177 := (Kd.V_at (base := w.heap.size) (Kd.N_V HO179.out)).2.2; have hcut24 := cut_to (P := Tryz.prog) 22 40 .i64 Tryz.underlying22 hi024 Ao25 t177.length co25 2 zb42 q24 hroom24; have hr24 := Kd.F_take (m := 2) hC24 zb42; have hy24 : y180.length = (2 : Int).toNat := (by rw [Ny180.out, List.length_take]; omega); rw [← Ny180.out] at hr24; rw [← hy24] at hcut24; have HO184 := Aside0.mk (show Kd.V k40 40 _ w.heap.size _ (.slice Ao25 y180.length co25) y180 from Kd.V_mk zb42 hr24); have HC184 := Aside0.mk (show y180.length ≤ co25 from by omega); clear hr24 hC24 hroom24 hi024 hsz24; have KY24 := Aside0.mk hy24; clear hy24; replace q24 := eq_true q24) | ((with_reducible refine gate_callee (f := 7) rfl ?_); refine goesL_ (some 7) rfl rfl Tryz.func7 zb9 rfl #[.string (⟨#[116, 101, 120, 116, 47, 42, 59, 113, 61, 48, 46, 53, 44, 32, 116, 101, 120, 116, 47, 104, 116, 109, 108, 44, 32, 42, 47, 42, 59, 113, 61, 48, 46, 49]⟩ : ByteArray), .slice Ao25 y180.length co25] rfl zb2 ?_; (with_reducible refine (quality_Best.calls k (⟨#[116, 101, 120, 116, 47, 42, 59, 113, 61, 48, 46, 53, 44, 32, 116, 101, 120, 116, 47, 104, 116, 109, 108, 44, 32, 42, 47, 42, 59, 113, 61, 48, 46, 49]⟩ : ByteArray) _ _ y180 t185 t186 _ ?side1 ?side2 ?side3 A3.out).mono ?_); (case side1 => repeat (first | exact (Kd.V_reads' HO184.out).2.2 | (with_reducible refine Kd.C_alloc ?_ _) | (with_reducible refine Kd.C_drewN ?_ _) | (with_reducible refine Kd.C_drew ?_))); (case side2 => exact (Kd.V_reads' HO184.out).2.1); (case side3 => exact Glob.below hGA.out zb0); rintro e w26 ⟨rfl, hb⟩; refine ⟨_, rfl, ?_⟩; have n0_ := Aside0.mk (Kd.N_below zb25 hb); have n1_ := Aside0.mk (Kd.V_below zb24 hb); have n2_ := Aside0.mk (below_step zb0 hb); clear HO179; clear HO184; clear HB; have HO179 := n0_; have HO184 := n1_; have HB := n2_; clear n0_ n1_ n2_; (try clear hb); (try clear hb2); (try clear hk); (try clear hi)) | ((with_reducible refine gate_callee (f := 16) rfl ?_); refine goesL_ (some 10) rfl rfl Tryz.func16 zb9 rfl #[.string (⟨#[49, 46, 53]⟩ : ByteArray)] rfl zb2 ?_; (with_reducible refine (quality_Weight.calls (⟨#[49, 46, 53]⟩ : ByteArray) t187 _ ?side1 A4.out).mono ?_); (case side1 => exact Glob.below hGA.out zb0); rintro e w27 ⟨rfl, hb⟩; refine ⟨_, rfl, ?_⟩; have n0_ := Aside0.mk (Kd.N_below zb25 hb); have n1_ := Aside0.mk (Kd.V_below zb24 hb); have n2_ := Aside0.mk (below_step zb0 hb); clear HO179; clear HO184; clear HB; have HO179 := n0_; have HO184 := n1_; have HB := n2_; clear n0_ n1_ n2_; (try clear hb); (try clear hb2); (try clear hk); (try clear hi)))
     go_ret
     exact ⟨zb6, zb0⟩
   ·rw [if_neg c6] at H
    have c6b0 : (FloatKind.f64.format.order t186 4607182418800017408 == some .eq) = false := by simpa using c6
    (try (have c6b1 : decide (FloatKind.f64.format.order t186 4607182418800017408 = some .eq) = false := by simpa using c6))
    (try (have c6b2 : (FloatKind.f64.format.order t186 4607182418800017408 == some .eq) = false := by simpa using c6))
    (try (have c6b3 : ¬ (FloatKind.f64.format.order t186 4607182418800017408 = some .eq) := by simpa using c6))
    clear c6
    obtain rfl := Option.some.inj H
    go_enter Tryz.func6, Tryz.ntmps6
    go_wp2_with (first | ((with_reducible refine gate_callee (f := 9) rfl ?_); refine goesL_ (some 5) rfl rfl Tryz.func9 zb9 rfl #[] rfl zb2 ?_; (with_reducible refine (broadsheetlaw14_have.calls  t177 _ A1.out).mono ?_); rintro e w28 ⟨v178, rfl, ho0, hb⟩; refine ⟨_, rfl, ?_⟩; have n0_ := Aside0.mk (Kd.N_lower (Kd.N_mono (ok' := fun k_ => True) ho0 (fun k_ hk_ => trivial)) (below_size zb0)); have n1_ := Aside0.mk (below_step zb0 hb); clear HB; have HO179 := n0_; have HB := n1_; clear n0_ n1_; (try clear hb); (try clear hb2); (try clear hk); (try clear hi); (try clear ho0); obtain ⟨Ao30, co30, eo30⟩ := Kd.N_slice HO179.out; subst eo30; have q29 : (2 : Int) ≤ ((t177.length : Int) : Int) := of_decide_eq_true zb3; obtain ⟨i029, hi029, _, hsz29, _⟩ := info_parts info40; have hroom29 : t177.length ≤ co30 := (Kd.N_reads' HO179.out).2.1; have hC29 : Kd.F k40 _ _ Ao30 t177.length t177 := (Kd.V_at (base := w.heap.size) (Kd.N_V HO179.out)).2.2; have hcut29 := cut_to (P := Tryz.prog) 22 40 .i64 Tryz.underlying22 hi029 Ao30 t177.length co30 2 zb42 q29 hroom29; have hr29 := Kd.F_take (m := 2) hC29 zb42; have hy29 : y180.length = (2 : Int).toNat := (by rw [Ny180.out, List.length_take]; omega); rw [← Ny180.out] at hr29; rw [← hy29] at hcut29; have HO184 := Aside0.mk (show Kd.V k40 40 _ w.heap.size _ (.slice Ao30 y180.length co30) y180 from Kd.V_mk zb42 hr29); have HC184 := Aside0.mk (show y180.length ≤ co30 from by omega); clear hr29 hC29 hroom29 hi029 hsz29; have KY29 := Aside0.mk hy29; clear hy29; replace q29 := eq_true q29) | ((with_reducible refine gate_callee (f := 7) rfl ?_); refine goesL_ (some 7) rfl rfl Tryz.func7 zb9 rfl #[.string (⟨#[116, 101, 120, 116, 47, 42, 59, 113, 61, 48, 46, 53, 44, 32, 116, 101, 120, 116, 47, 104, 116, 109, 108, 44, 32, 42, 47, 42, 59, 113, 61, 48, 46, 49]⟩ : ByteArray), .slice Ao30 y180.length co30] rfl zb2 ?_; (with_reducible refine (quality_Best.calls k (⟨#[116, 101, 120, 116, 47, 42, 59, 113, 61, 48, 46, 53, 44, 32, 116, 101, 120, 116, 47, 104, 116, 109, 108, 44, 32, 42, 47, 42, 59, 113, 61, 48, 46, 49]⟩ : ByteArray) _ _ y180 t185 t186 _ ?side1 ?side2 ?side3 A3.out).mono ?_); (case side1 => repeat (first | exact (Kd.V_reads' HO184.out).2.2 | (with_reducible refine Kd.C_alloc ?_ _) | (with_reducible refine Kd.C_drewN ?_ _) | (with_reducible refine Kd.C_drew ?_))); (case side2 => exact (Kd.V_reads' HO184.out).2.1); (case side3 => exact Glob.below hGA.out zb0); rintro e w31 ⟨rfl, hb⟩; refine ⟨_, rfl, ?_⟩; have n0_ := Aside0.mk (Kd.N_below zb25 hb); have n1_ := Aside0.mk (Kd.V_below zb24 hb); have n2_ := Aside0.mk (below_step zb0 hb); clear HO179; clear HO184; clear HB; have HO179 := n0_; have HO184 := n1_; have HB := n2_; clear n0_ n1_ n2_; (try clear hb); (try clear hb2); (try clear hk); (try clear hi)) | ((with_reducible refine gate_callee (f := 16) rfl ?_); refine goesL_ (some 10) rfl rfl Tryz.func16 zb9 rfl #[.string (⟨#[49, 46, 53]⟩ : ByteArray)] rfl zb2 ?_; (with_reducible refine (quality_Weight.calls (⟨#[49, 46, 53]⟩ : ByteArray) t187 _ ?side1 A4.out).mono ?_); (case side1 => exact Glob.below hGA.out zb0); rintro e w32 ⟨rfl, hb⟩; refine ⟨_, rfl, ?_⟩; have n0_ := Aside0.mk (Kd.N_below zb25 hb); have n1_ := Aside0.mk (Kd.V_below zb24 hb); have n2_ := Aside0.mk (below_step zb0 hb); clear HO179; clear HO184; clear HB; have HO179 := n0_; have HO184 := n1_; have HB := n2_; clear n0_ n1_ n2_; (try clear hb); (try clear hb2); (try clear hk); (try clear hi)))
    go_ret
    exact ⟨zb6, zb0⟩
  ·rw [if_neg c5] at H
   have c5b0 : (t185 == 1) = false := beq_eq_false_iff_ne.mpr c5
   have c5b1 : (t185 != 1) = true := bne_iff_ne.mpr c5
   obtain rfl := Option.some.inj H
   go_enter Tryz.func6, Tryz.ntmps6
   go_wp2_with (first | ((with_reducible refine gate_callee (f := 9) rfl ?_); refine goesL_ (some 5) rfl rfl Tryz.func9 zb9 rfl #[] rfl zb2 ?_; (with_reducible refine (broadsheetlaw14_have.calls  t177 _ A1.out).mono ?_); rintro e w33 ⟨v178, rfl, ho0, hb⟩; refine ⟨_, rfl, ?_⟩; have n0_ := Aside0.mk (Kd.N_lower (Kd.N_mono (ok' := fun k_ => True) ho0 (fun k_ hk_ => trivial)) (below_size zb0)); have n1_ := Aside0.mk (below_step zb0 hb); clear HB; have HO179 := n0_; have HB := n1_; clear n0_ n1_; (try clear hb); (try clear hb2); (try clear hk); (try clear hi); (try clear ho0); obtain ⟨Ao35, co35, eo35⟩ := Kd.N_slice HO179.out; subst eo35; have q34 : (2 : Int) ≤ ((t177.length : Int) : Int) := of_decide_eq_true zb3; obtain ⟨i034, hi034, _, hsz34, _⟩ := info_parts info40; have hroom34 : t177.length ≤ co35 := (Kd.N_reads' HO179.out).2.1; have hC34 : Kd.F k40 _ _ Ao35 t177.length t177 := (Kd.V_at (base := w.heap.size) (Kd.N_V HO179.out)).2.2; have hcut34 := cut_to (P := Tryz.prog) 22 40 .i64 Tryz.underlying22 hi034 Ao35 t177.length co35 2 zb42 q34 hroom34; have hr34 := Kd.F_take (m := 2) hC34 zb42; have hy34 : y180.length = (2 : Int).toNat := (by rw [Ny180.out, List.length_take]; omega); rw [← Ny180.out] at hr34; rw [← hy34] at hcut34; have HO184 := Aside0.mk (show Kd.V k40 40 _ w.heap.size _ (.slice Ao35 y180.length co35) y180 from Kd.V_mk zb42 hr34); have HC184 := Aside0.mk (show y180.length ≤ co35 from by omega); clear hr34 hC34 hroom34 hi034 hsz34; have KY34 := Aside0.mk hy34; clear hy34; replace q34 := eq_true q34) | ((with_reducible refine gate_callee (f := 7) rfl ?_); refine goesL_ (some 7) rfl rfl Tryz.func7 zb9 rfl #[.string (⟨#[116, 101, 120, 116, 47, 42, 59, 113, 61, 48, 46, 53, 44, 32, 116, 101, 120, 116, 47, 104, 116, 109, 108, 44, 32, 42, 47, 42, 59, 113, 61, 48, 46, 49]⟩ : ByteArray), .slice Ao35 y180.length co35] rfl zb2 ?_; (with_reducible refine (quality_Best.calls k (⟨#[116, 101, 120, 116, 47, 42, 59, 113, 61, 48, 46, 53, 44, 32, 116, 101, 120, 116, 47, 104, 116, 109, 108, 44, 32, 42, 47, 42, 59, 113, 61, 48, 46, 49]⟩ : ByteArray) _ _ y180 t185 t186 _ ?side1 ?side2 ?side3 A3.out).mono ?_); (case side1 => repeat (first | exact (Kd.V_reads' HO184.out).2.2 | (with_reducible refine Kd.C_alloc ?_ _) | (with_reducible refine Kd.C_drewN ?_ _) | (with_reducible refine Kd.C_drew ?_))); (case side2 => exact (Kd.V_reads' HO184.out).2.1); (case side3 => exact Glob.below hGA.out zb0); rintro e w36 ⟨rfl, hb⟩; refine ⟨_, rfl, ?_⟩; have n0_ := Aside0.mk (Kd.N_below zb25 hb); have n1_ := Aside0.mk (Kd.V_below zb24 hb); have n2_ := Aside0.mk (below_step zb0 hb); clear HO179; clear HO184; clear HB; have HO179 := n0_; have HO184 := n1_; have HB := n2_; clear n0_ n1_ n2_; (try clear hb); (try clear hb2); (try clear hk); (try clear hi)) | ((with_reducible refine gate_callee (f := 16) rfl ?_); refine goesL_ (some 10) rfl rfl Tryz.func16 zb9 rfl #[.string (⟨#[49, 46, 53]⟩ : ByteArray)] rfl zb2 ?_; (with_reducible refine (quality_Weight.calls (⟨#[49, 46, 53]⟩ : ByteArray) t187 _ ?side1 A4.out).mono ?_); (case side1 => exact Glob.below hGA.out zb0); rintro e w37 ⟨rfl, hb⟩; refine ⟨_, rfl, ?_⟩; have n0_ := Aside0.mk (Kd.N_below zb25 hb); have n1_ := Aside0.mk (Kd.V_below zb24 hb); have n2_ := Aside0.mk (below_step zb0 hb); clear HO179; clear HO184; clear HB; have HO179 := n0_; have HO184 := n1_; have HB := n2_; clear n0_ n1_ n2_; (try clear hb); (try clear hb2); (try clear hk); (try clear hi)))
   go_ret
   exact ⟨zb6, zb0⟩
 ·rw [if_neg c2] at H
  exact absurd H zb45
end Go.Proofs.YtghfbhobpodoeaaGreatDoor.P
/- SpQd -/
namespace Go.Proofs.YtghfbhobpodoeaaGreatDoor.Sp
open Go Go.RowKit Go.Proofs.YtghfbhobpodoeaaGreatDoorW.PrintWords Go.Proofs.YtghfbhobpodoeaaGreatDoorW.PrintLast Go.Proofs.YtghfbhobpodoeaaGreatDoor.O Go.Proofs.YtghfbhobpodoeaaGreatDoor.P
set_option linter.unusedVariables false
set_option linter.unusedSimpArgs false
def haveL : List Med := [⟨[116, 101, 120, 116], [112, 108, 97, 105, 110], []⟩, ⟨[116, 101, 120, 116], [104, 116, 109, 108], []⟩, ⟨[105, 109, 97, 103, 101], [112, 110, 103], []⟩, ⟨[97, 112, 112, 108, 105, 99, 97, 116, 105, 111, 110], [97, 116, 111, 109, 43, 120, 109, 108], [([116, 121, 112, 101], [101, 110, 116, 114, 121])]⟩]
theorem haveF : broadsheetlaw14_have.f = some (haveL.map medB) := rfl
theorem psm_nil (N : Nat) : PSm N [] := fun p hp => by simp at hp
theorem have_sm : ∀ m ∈ haveL, MSm 1000000 m := by
  intro m hm
  simp only [haveL, List.mem_cons, List.not_mem_nil, or_false] at hm
  rcases hm with rfl | rfl | rfl | rfl
  · exact ⟨by decide, by decide, by decide, psm_nil _⟩
  · exact ⟨by decide, by decide, by decide, psm_nil _⟩
  · exact ⟨by decide, by decide, by decide, psm_nil _⟩
  · exact ⟨by decide, by decide, by decide, fun p hp => by simp at hp; subst hp; decide⟩
def awkS : L := [116, 101, 120, 116, 47, 42, 59, 113, 61, 48, 46, 53, 44, 32, 116, 101, 120, 116, 47, 104, 116, 109, 108, 44, 32, 42, 47, 42, 59, 113, 61, 48, 46, 49]
theorem awk_best : best awkS (haveL.take 2) = (1, one64) := by decide +kernel
theorem wei_15 : weiL [49, 46, 53] = nanW := by decide +kernel
theorem wei_05 : weiL [48, 46, 53] = 4602678819172646912 := by decide +kernel
theorem fl_1 : (FloatKind.f64.format.order one64 4607182418800017408 == some .eq) = true := by decide +kernel
theorem fl_2 : (FloatKind.f64.format.order nanW nanW != some .eq) = true := by decide +kernel
theorem fl_3 : (FloatKind.f64.format.order 4602678819172646912 4602678819172646912 == some .eq) = true := by decide +kernel
theorem fl_4 : clampW nanW = 0 := by decide +kernel
theorem fl_5 : (FloatKind.f64.format.order 0 0 == some .eq) = true := by decide +kernel
theorem awake14 (k : Nat) (hk : 10000000 ≤ k) : broadsheetlaw14_awake.f k = some true := by
  unfold broadsheetlaw14_awake.f
  rw [haveF]
  simp only [Option.bind_some]
  rw [if_pos (by decide)]
  rw [show (⟨#[116, 101, 120, 116, 47, 42, 59, 113, 61, 48, 46, 53, 44, 32, 116, 101, 120, 116, 47, 104, 116, 109, 108, 44, 32, 42, 47, 42, 59, 113, 61, 48, 46, 49]⟩ : ByteArray) = mk awkS from rfl, show ((haveL.map medB).take 2) = (haveL.take 2).map medB from rfl]
  rw [bestF awkS (haveL.take 2) k (by decide) (fun m hm => have_sm m (List.mem_of_mem_take hm)) (by decide) hk, awk_best]
  simp only [Option.bind_some]
  rw [show (⟨#[49, 46, 53]⟩ : ByteArray) = mk [49, 46, 53] from rfl, weiF _ (by decide), wei_15]
  simp only [Option.bind_some, if_true]
  rw [show (⟨#[48, 46, 53]⟩ : ByteArray) = mk [48, 46, 53] from rfl, if_pos fl_1, if_pos fl_2, weiF _ (by decide), wei_05]
  simp only [Option.bind_some]
  rw [if_pos fl_3]
  unfold quality_Clamp.f
  simp only [Option.bind_some]
  rw [fl_4, fl_5]
theorem nan_eq (x : Nat) : (FloatKind.f64.format.order x x != some .eq) = nanB x := by
  cases h : nanB x with
  | true => rw [order_nanL h]; rfl
  | false =>
    rw [order_key h h]
    simp [cmp_int]
def sameW (a b : Nat) : Bool := (nanB a && nanB b) || (!nanB a && !nanB b && decide (keyI a = keyI b) && (decide (wrap64 (a : Int) < 0) == decide (wrap64 (b : Int) < 0)))
theorem eq_key (a b : Nat) : (FloatKind.f64.format.order a b == some .eq) = (!nanB a && !nanB b && decide (keyI a = keyI b)) := by
  cases ha : nanB a with
  | true => rw [order_nanL ha]; rfl
  | false =>
    cases hb : nanB b with
    | true => rw [order_nanR hb]; simp
    | false =>
      rw [order_key ha hb, cmp_int]
      by_cases h1 : keyI a < keyI b
      · rw [if_pos h1]
        have : ¬ keyI a = keyI b := by omega
        simp [this]
      · rw [if_neg h1]
        by_cases h2 : keyI a = keyI b
        · rw [if_pos h2]; simp [h2]
        · rw [if_neg h2]; simp [h2]
theorem gt_key (a b : Nat) : (FloatKind.f64.format.order a b == some .gt) = (!nanB a && !nanB b && decide (keyI b < keyI a)) := by
  cases ha : nanB a with
  | true => rw [order_nanL ha]; rfl
  | false =>
    cases hb : nanB b with
    | true => rw [order_nanR hb]; simp
    | false =>
      rw [order_key ha hb, cmp_int]
      by_cases h1 : keyI a < keyI b
      · rw [if_pos h1]
        have : ¬ keyI b < keyI a := by omega
        simp [this]
      · rw [if_neg h1]
        by_cases h2 : keyI a = keyI b
        · rw [if_pos h2]; simp [h2]
        · rw [if_neg h2]
          have : keyI b < keyI a := by omega
          simp [this]
end Go.Proofs.YtghfbhobpodoeaaGreatDoor.Sp
/- Px29 -/
namespace Go.Proofs.YtghfbhobpodoeaaGreatDoor.P
open Go.Proofs.YtghfbhobpodoeaaGreatDoor.B
open Go.RowKit Go.Proofs.YtghfbhobpodoeaaGreatDoorW.PrintWords Go.Proofs.YtghfbhobpodoeaaGreatDoorW.PrintLast Go.Proofs.YtghfbhobpodoeaaGreatDoorW.PrintMore
attribute [local go_sem] run_store_float str_leq str_gtr str_geq max2_int min2_int max_two min_two max_three min_three max_four min_four
set_option linter.unusedVariables false
set_option linter.unusedSimpArgs false
def broadsheetref14_Clamp.f (a0 : Nat) : Option (Nat) := if (FloatKind.f64.format.order a0 4607182418800017408 == some .gt || FloatKind.f64.format.order a0 4607182418800017408 == some .eq) = true then (some 4607182418800017408) else (if (FloatKind.f64.format.order a0 0 == some .gt) = true then (some a0) else (some 0))
set_option maxHeartbeats 8000000 in
set_option maxRecDepth 100000 in
theorem broadsheetref14_Clamp.calls (a0 : Nat) (r : Nat) (w : World) (h : broadsheetref14_Clamp.f a0 = some r) :
  Calls Tryz.prog 37 #[.float .f64 a0] w fun e w' => e = .returned (.float .f64 r) ∧ Drawn0 w w' := by
 have H : (if (FloatKind.f64.format.order a0 4607182418800017408 == some .gt || FloatKind.f64.format.order a0 4607182418800017408 == some .eq) = true then (some 4607182418800017408) else (if (FloatKind.f64.format.order a0 0 == some .gt) = true then (some a0) else (some 0))) = some r := h
 clear h
 by_cases c2 : (FloatKind.f64.format.order a0 4607182418800017408 == some .gt || FloatKind.f64.format.order a0 4607182418800017408 == some .eq) = true
 ·rw [if_pos c2] at H
  have c2b0 : (FloatKind.f64.format.order a0 4607182418800017408 == some .gt || FloatKind.f64.format.order a0 4607182418800017408 == some .eq) = true := c2
  (try (have c2b1 : decide (FloatKind.f64.format.order a0 4607182418800017408 = some .gt || FloatKind.f64.format.order a0 4607182418800017408 == some .eq) = true := by simpa using c2))
  (try (have c2b2 : (FloatKind.f64.format.order a0 4607182418800017408 == some .gt || FloatKind.f64.format.order a0 4607182418800017408 == some .eq) = true := by simpa using c2))
  clear c2
  obtain rfl := Option.some.inj H
  go_enter Tryz.func37, Tryz.ntmps37
  go_wp2
  go_ret
  exact ⟨by first | rfl | (simp; done) | (simp [*]; done), by repeat (first | exact Drawn0.refl _ | apply Drawn0.step)⟩
 ·rw [if_neg c2] at H
  have c2b0 : (FloatKind.f64.format.order a0 4607182418800017408 == some .gt || FloatKind.f64.format.order a0 4607182418800017408 == some .eq) = false := by simpa using c2
  (try (have c2b1 : decide (FloatKind.f64.format.order a0 4607182418800017408 = some .gt || FloatKind.f64.format.order a0 4607182418800017408 == some .eq) = false := by simpa using c2))
  (try (have c2b2 : (FloatKind.f64.format.order a0 4607182418800017408 == some .gt || FloatKind.f64.format.order a0 4607182418800017408 == some .eq) = false := by simpa using c2))
  (try (have c2b3 : ¬ (FloatKind.f64.format.order a0 4607182418800017408 = some .gt || FloatKind.f64.format.order a0 4607182418800017408 == some .eq) := by simpa using c2))
  clear c2
  by_cases c3 : (FloatKind.f64.format.order a0 0 == some .gt) = true
  ·rw [if_pos c3] at H
   have c3b0 : (FloatKind.f64.format.order a0 0 == some .gt) = true := c3
   (try (have c3b1 : decide (FloatKind.f64.format.order a0 0 = some .gt) = true := by simpa using c3))
   (try (have c3b2 : (FloatKind.f64.format.order a0 0 == some .gt) = true := by simpa using c3))
   clear c3
   obtain rfl := Option.some.inj H
   go_enter Tryz.func37, Tryz.ntmps37
   go_wp2
   go_ret
   exact ⟨by first | rfl | (simp; done) | (simp [*]; done), by repeat (first | exact Drawn0.refl _ | apply Drawn0.step)⟩
  ·rw [if_neg c3] at H
   have c3b0 : (FloatKind.f64.format.order a0 0 == some .gt) = false := by simpa using c3
   (try (have c3b1 : decide (FloatKind.f64.format.order a0 0 = some .gt) = false := by simpa using c3))
   (try (have c3b2 : (FloatKind.f64.format.order a0 0 == some .gt) = false := by simpa using c3))
   (try (have c3b3 : ¬ (FloatKind.f64.format.order a0 0 = some .gt) := by simpa using c3))
   clear c3
   obtain rfl := Option.some.inj H
   go_enter Tryz.func37, Tryz.ntmps37
   go_wp2
   go_ret
   exact ⟨by first | rfl | (simp; done) | (simp [*]; done), by repeat (first | exact Drawn0.refl _ | apply Drawn0.step)⟩
def broadsheetref14_Of.l0 : Nat → List (S71) → Nat → Int → Int → ByteArray → ByteArray → List (S50) → Option (Nat)
  | 0, _, _, _, _, _, _, _ => none
  | k + 1, x0, x5, x6, x7, x256000, x256001, x256002 => if x7 < (x0.length : Int) then (if 0 ≤ x7 then ((broadsheetref13_Fits.f k ((rd_T71 x0 x7).f0.f0) ((rd_T71 x0 x7).f0.f1) ((rd_T71 x0 x7).f0.f2) x256000 x256001 x256002).bind fun t257 => (if t257 = true then (if ((rd_T71 x0 x7).f2) > x6 then (broadsheetref14_Of.l0 k x0 ((rd_T71 x0 x7).f1) ((rd_T71 x0 x7).f2) (wrap64 (x7 + 1)) x256000 x256001 x256002) else (broadsheetref14_Of.l0 k x0 x5 x6 (wrap64 (x7 + 1)) x256000 x256001 x256002)) else (broadsheetref14_Of.l0 k x0 x5 x6 (wrap64 (x7 + 1)) x256000 x256001 x256002))) else (none)) else ((broadsheetref14_Clamp.f x5).bind fun t261 => (some t261))
def broadsheetref14_Of.f (k : Nat) (l0 : List (S71)) (a1_0 : ByteArray) (a1_1 : ByteArray) (l1_2 : List (S50)) : Option (Nat) := broadsheetref14_Of.l0 k l0 0 (-1) 0 a1_0 a1_1 l1_2
def broadsheetref14_Of.T5 : Bool × List (List Nat × List Nat) := (true, [([], []), ([], []), ([0, 1], [0, 1]), ([2], [2]), ([3], [3]), ([], []), ([4, 5], [4, 5]), ([6, 6], [6]), ([7], [7]), ([7], [7]), ([8, 9, 7], [7, 8, 9]), ([10, 7], [7, 10]), ([11, 7], [7, 11]), ([7], [7]), ([12, 13, 7], [7, 12, 13]), ([7, 14], [7, 14])])
def broadsheetref14_Of.B5 : List Nat := [0, 0, 3, 7, 15, 0, 63, 127, 255, 255, 1023, 2047, 4095, 255, 16383, 32767]
theorem broadsheetref14_Of.tab5 : rtab .any (opsOf Tryz.f21 5) = broadsheetref14_Of.T5 := by kernel_rfl
theorem broadsheetref14_Of.bits5 : waitsOk broadsheetref14_Of.T5.2 broadsheetref14_Of.B5 = true := by kernel_rfl
def broadsheetref14_Of.T6 : Bool × List (List Nat × List Nat) := (true, [([], []), ([], []), ([0, 1], [0, 1]), ([2], [2]), ([3], [3]), ([], []), ([], []), ([5, 6], [5, 6]), ([7], [7]), ([8], [8]), ([4, 0, 1, 2, 3, 4], [4]), ([9, 10, 0, 1, 2, 3, 4, 5, 6, 7, 8, 9, 10], [9])])
def broadsheetref14_Of.B6 : List Nat := [0, 0, 3, 7, 15, 0, 0, 96, 224, 480, 31, 2047]
theorem broadsheetref14_Of.tab6 : rtab .any (opsOf Tryz.f21 6) = broadsheetref14_Of.T6 := by kernel_rfl
theorem broadsheetref14_Of.bits6 : waitsOk broadsheetref14_Of.T6.2 broadsheetref14_Of.B6 = true := by kernel_rfl
set_option maxHeartbeats 8000000 in
set_option maxRecDepth 100000 in
theorem broadsheetref14_Of.calls (k : Nat) (A0 : Option Addr) (c0 : Nat) (l0 : List (S71)) (a1_0 : ByteArray) (a1_1 : ByteArray) (A1_2 : Option Addr) (c1_2 : Nat) (l1_2 : List (S50)) (r : Nat) (w : World) (hr0 : Kd.C k71 w A0 l0.length l0) (hc0 : l0.length ≤ c0) (hr1_2 : Kd.C k50 w A1_2 l1_2.length l1_2) (hc1_2 : l1_2.length ≤ c1_2) (h : broadsheetref14_Of.f k l0 a1_0 a1_1 l1_2 = some r) :
  Calls Tryz.prog 21 #[.slice A0 l0.length c0, .agg #[.string a1_0, .string a1_1, .slice A1_2 l1_2.length c1_2]] w fun e w' => e = .returned (.float .f64 r) ∧ Below w.heap.size w w' := by
 have hu40 := Tryz.underlying40
 have HR0 := Aside0.mk hr0
 have HC0 := Aside0.mk hc0
 clear hr0 hc0
 have HR1_2 := Aside0.mk hr1_2
 have HC1_2 := Aside0.mk hc1_2
 clear hr1_2 hc1_2
 have HB := Aside0.mk (Below.refl w.heap.size w)
 have H : (broadsheetref14_Of.l0 k l0 0 (-1) 0 a1_0 a1_1 l1_2) = some r := h
 clear h
 have H' := Aside0.mk H
 clear H
 go_enter Tryz.func21, Tryz.ntmps21
 go_wp2_with (first | ((with_reducible refine gate_dst (N := 3) rfl ?_); refine box_event ?hg (N := 3) ?hd (cs := #[.string a1_0, .string a1_1, .slice A1_2 l1_2.length c1_2]) (t := 40) ?hr ?_; (case hd => rfl); (case hg => rfl); (case hr => first | (go_simp; done) | (go_simp; rfl)); intro gb255 hg w3 hbox hb; have n0_ := Aside0.mk (below_step zb0 hb); have n1_ := Aside0.mk (hbox); have n2_ := Aside0.mk ((by rw [hg]; exact (below_size zb0) : w.heap.size ≤ gb255)); have n3_ := Aside0.mk ((by rw [hg]; exact (below_size zb0) : w.heap.size ≤ gb255)); clear HB; have HB := n0_; have BK255 := n1_; have GW255 := n2_; have GE255 := n3_; clear n0_ n1_ n2_ n3_; clear hb hbox hg))
 first | go_loopg [5, 6, 7] k (fun kq v5 v6 v7 w' => ∃ (x5_1 : Nat) (x6_1 : Int) (x7_1 : Int), v5 = .float .f64 x5_1 ∧ v6 = .int .i64 x6_1 ∧ v7 = .int .i64 x7_1 ∧ Aside0 (broadsheetref14_Of.l0 kq l0 x5_1 x6_1 x7_1 a1_0 a1_1 l1_2 = some r) ∧ Aside0 (kq ≤ k) ∧ Aside0 (w'.heap[gb255]? = some (.cells #[.string a1_0, .string a1_1, (.slice A1_2 l1_2.length c1_2)] 40 (0, 0))) ∧ Aside0 (Below w.heap.size w w')) | (go_simp; go_loopg [5, 6, 7] k (fun kq v5 v6 v7 w' => ∃ (x5_1 : Nat) (x6_1 : Int) (x7_1 : Int), v5 = .float .f64 x5_1 ∧ v6 = .int .i64 x6_1 ∧ v7 = .int .i64 x7_1 ∧ Aside0 (broadsheetref14_Of.l0 kq l0 x5_1 x6_1 x7_1 a1_0 a1_1 l1_2 = some r) ∧ Aside0 (kq ≤ k) ∧ Aside0 (w'.heap[gb255]? = some (.cells #[.string a1_0, .string a1_1, (.slice A1_2 l1_2.length c1_2)] 40 (0, 0))) ∧ Aside0 (Below w.heap.size w w')))
 case atStart => exact ⟨(0), ((-1)), (0), zb4, zb4, zb4, H', ⟨Nat.le_refl _⟩, ⟨by (with_reducible repeat (first | refine blk_drewN ?_ _ | refine blk_drew ?_ | refine blk_alloc ?_ _)); exact BK255.out⟩, ⟨by repeat (first | (with_reducible first | exact HB.out | apply below_alloc | apply pw_below_drewN | apply below_drew1 | refine below_set ?_ GE255.out) | exact HB.out)⟩⟩
 case round =>
  clear H'
  try clear c1
  try clear c2
  try clear p2
  obtain ⟨x5_1, x6_1, x7_1, rfl, rfl, rfl, HA, HK1, BK255, HB⟩ := hrel
  cases gk with
  | zero => exact absurd HA.out (by simp [broadsheetref14_Of.l0])
  | succ k1 =>
   have H := HA.out
   clear HA
   simp only [broadsheetref14_Of.l0] at H
   by_cases c4 : x7_1 < (l0.length : Int)
   ·rw [if_pos c4] at H
    have c4b0 : decide (x7_1 < (l0.length : Int)) = true := decide_eq_true c4
    clear c4
    by_cases c5 : 0 ≤ x7_1
    ·rw [if_pos c5] at H
     have c5b0 : decide (0 ≤ x7_1) = true := decide_eq_true c5
     clear c5
     replace H := Option.bind_eq_some_iff.mp H
     obtain ⟨t257, A60, H⟩ := H
     replace H : (if t257 = true then (if ((rd_T71 l0 x7_1).f2) > x6_1 then (broadsheetref14_Of.l0 k1 l0 ((rd_T71 l0 x7_1).f1) ((rd_T71 l0 x7_1).f2) (wrap64 (x7_1 + 1)) a1_0 a1_1 l1_2) else (broadsheetref14_Of.l0 k1 l0 x5_1 x6_1 (wrap64 (x7_1 + 1)) a1_0 a1_1 l1_2)) else (broadsheetref14_Of.l0 k1 l0 x5_1 x6_1 (wrap64 (x7_1 + 1)) a1_0 a1_1 l1_2)) = some r := H
     have A6 := Aside0.mk A60
     clear A60
     by_cases c7 : t257 = true
     ·subst c7
      replace H : (if ((rd_T71 l0 x7_1).f2) > x6_1 then (broadsheetref14_Of.l0 k1 l0 ((rd_T71 l0 x7_1).f1) ((rd_T71 l0 x7_1).f2) (wrap64 (x7_1 + 1)) a1_0 a1_1 l1_2) else (broadsheetref14_Of.l0 k1 l0 x5_1 x6_1 (wrap64 (x7_1 + 1)) a1_0 a1_1 l1_2)) = some r := by rw [if_pos rfl] at H; exact H
      by_cases c8 : ((rd_T71 l0 x7_1).f2) > x6_1
      ·rw [if_pos c8] at H
       have c8b0 : decide (x6_1 < ((rd_T71 l0 x7_1).f2)) = true := decide_eq_true c8
       clear c8
       have H' := Aside0.mk H
       clear H
       try go_wp2
       have n0_ := Aside0.mk (blk_drew BK255.out)
       have n1_ := Aside0.mk (below_drew1 HB.out)
       clear BK255
       clear HB
       have BK255 := n0_
       have HB := n1_
       clear n0_ n1_
       have p256 : 0 ≤ (x7_1 : Int) := of_decide_eq_true zb3
       have q256 : x7_1 < (l0.length : Int) := of_decide_eq_true zb3
       obtain ⟨ad256, A256_2, c256_2, e256, hx256_0, hx256_1, hx256_2, hx256_3, hx256_4, hl256_2, hi256_2⟩ := at_T71 HR0.out x7_1 p256 q256
       have hw256_4 := hx256_4
       have hw256_3 := hx256_3
       have hw256_2 := hx256_2
       have hw256_1 := hx256_1
       have hw256_0 := hx256_0
       cases e256
       replace hx256_0 := (HB.out.cell (World.block_lt_of_cell? w _ hx256_0)).trans hx256_0
       replace hx256_1 := (HB.out.cell (World.block_lt_of_cell? w _ hx256_1)).trans hx256_1
       replace hx256_2 := (HB.out.cell (World.block_lt_of_cell? w _ hx256_2)).trans hx256_2
       replace hx256_3 := (HB.out.cell (World.block_lt_of_cell? w _ hx256_3)).trans hx256_3
       replace hx256_4 := (HB.out.cell (World.block_lt_of_cell? w _ hx256_4)).trans hx256_4
       have HR256_2 := Aside0.mk hi256_2
       have HC256_2 := Aside0.mk hl256_2
       clear hi256_2 hl256_2
       replace p256 := eq_true p256
       replace q256 := eq_true q256
       have p258 : 0 ≤ (x7_1 : Int) := of_decide_eq_true zb3
       have q258 : x7_1 < (l0.length : Int) := of_decide_eq_true zb3
       obtain ⟨ad258, A258_2, c258_2, e258, hx258_0, hx258_1, hx258_2, hx258_3, hx258_4, hl258_2, hi258_2⟩ := at_T71 HR0.out x7_1 p258 q258
       have hw258_4 := hx258_4
       have hw258_3 := hx258_3
       have hw258_2 := hx258_2
       have hw258_1 := hx258_1
       have hw258_0 := hx258_0
       obtain rfl : ad256 = ad258 := (by injection e258)
       replace hx258_0 := (HB.out.cell (World.block_lt_of_cell? w _ hx258_0)).trans hx258_0
       replace hx258_1 := (HB.out.cell (World.block_lt_of_cell? w _ hx258_1)).trans hx258_1
       replace hx258_2 := (HB.out.cell (World.block_lt_of_cell? w _ hx258_2)).trans hx258_2
       replace hx258_3 := (HB.out.cell (World.block_lt_of_cell? w _ hx258_3)).trans hx258_3
       replace hx258_4 := (HB.out.cell (World.block_lt_of_cell? w _ hx258_4)).trans hx258_4
       have HR258_2 := Aside0.mk hi258_2
       have HC258_2 := Aside0.mk hl258_2
       clear hi258_2 hl258_2
       replace p258 := eq_true p258
       replace q258 := eq_true q258
       refine start_ (n := 16) (S := fun w' => w'.cell? ⟨gb255, 0, none⟩ = some (.string a1_0) ∧ w'.cell? ⟨gb255, 1, none⟩ = some (.string a1_1) ∧ w'.cell? ⟨gb255, 2, none⟩ = some (.slice A1_2 l1_2.length c1_2) ∧ w'.cell? (ad256.add ((x7_1).toNat * 5)) = some (.string ((rd_T71 l0 x7_1).f0.f0)) ∧ w'.cell? ⟨(ad256.add ((x7_1).toNat * 5)).block, (ad256.add ((x7_1).toNat * 5)).off + 1, none⟩ = some (.string ((rd_T71 l0 x7_1).f0.f1)) ∧ w'.cell? ⟨(ad256.add ((x7_1).toNat * 5)).block, (ad256.add ((x7_1).toNat * 5)).off + 2, none⟩ = some (.slice A256_2 ((rd_T71 l0 x7_1).f0.f2).length c256_2) ∧ w'.cell? ⟨(ad256.add ((x7_1).toNat * 5)).block, (ad256.add ((x7_1).toNat * 5)).off + 3, none⟩ = some (.float .f64 ((rd_T71 l0 x7_1).f1)) ∧ w'.cell? ⟨(ad256.add ((x7_1).toNat * 5)).block, (ad256.add ((x7_1).toNat * 5)).off + 4, none⟩ = some (.int .i64 ((rd_T71 l0 x7_1).f2)) ∧ w'.cell? (ad256.add ((x7_1).toNat * 5)) = some (.string ((rd_T71 l0 x7_1).f0.f0)) ∧ w'.cell? ⟨(ad256.add ((x7_1).toNat * 5)).block, (ad256.add ((x7_1).toNat * 5)).off + 1, none⟩ = some (.string ((rd_T71 l0 x7_1).f0.f1)) ∧ w'.cell? ⟨(ad256.add ((x7_1).toNat * 5)).block, (ad256.add ((x7_1).toNat * 5)).off + 2, none⟩ = some (.slice A258_2 ((rd_T71 l0 x7_1).f0.f2).length c258_2) ∧ w'.cell? ⟨(ad256.add ((x7_1).toNat * 5)).block, (ad256.add ((x7_1).toNat * 5)).off + 3, none⟩ = some (.float .f64 ((rd_T71 l0 x7_1).f1)) ∧ w'.cell? ⟨(ad256.add ((x7_1).toNat * 5)).block, (ad256.add ((x7_1).toNat * 5)).off + 4, none⟩ = some (.int .i64 ((rd_T71 l0 x7_1).f2))) (ds := []) #[false, false, false, false, false, false, false, false, false, false, false, false, false, false, false, false] zb9 rfl rfl ⟨(blk_cell BK255.out 0).trans rfl, (blk_cell BK255.out 1).trans rfl, (blk_cell BK255.out 2).trans rfl, ((HB.out.cell (World.block_lt_of_cell? w _ hw256_0)).trans hw256_0), ((HB.out.cell (World.block_lt_of_cell? w _ hw256_1)).trans hw256_1), ((HB.out.cell (World.block_lt_of_cell? w _ hw256_2)).trans hw256_2), ((HB.out.cell (World.block_lt_of_cell? w _ hw256_3)).trans hw256_3), ((HB.out.cell (World.block_lt_of_cell? w _ hw256_4)).trans hw256_4), ((HB.out.cell (World.block_lt_of_cell? w _ hw258_0)).trans hw258_0), ((HB.out.cell (World.block_lt_of_cell? w _ hw258_1)).trans hw258_1), ((HB.out.cell (World.block_lt_of_cell? w _ hw258_2)).trans hw258_2), ((HB.out.cell (World.block_lt_of_cell? w _ hw258_3)).trans hw258_3), ((HB.out.cell (World.block_lt_of_cell? w _ hw258_4)).trans hw258_4)⟩ (fun hHeld => ?_); refine with_tabW broadsheetref14_Of.tab5 broadsheetref14_Of.bits5 (fun HT_ HW_ => ?_)
       generalize wr.drew = w9 at BK255 HB HR256_2 HR258_2 hx256_0 hx256_1 hx256_2 hx256_3 hx256_4 hx258_0 hx258_1 hx258_2 hx258_3 hx258_4 hHeld ⊢
       refine pure_ (i := 0) (N := some 14) (v := ?_) (a' := ?_) #[true, false, false, false, false, false, false, false, false, false, false, false, false, false, false, false] rfl rfl (any_of HT_.out zb9) (fun _ _ _ h => h) (Or.inl ⟨by rfl, ?_⟩) ?_ ?_
       rotate_left
       ·intro w'
        go_simp
        first | with_reducible rfl | (rw [if_neg zb1])
       rotate_left
       ·simp only [Act.put, List.setIfInBounds_toArray, List.set_cons_zero, List.set_cons_succ, i64_w, i32_w]
        rfl
       refine pure_ (i := 1) (N := some 15) (v := ?_) (a' := ?_) #[true, true, false, false, false, false, false, false, false, false, false, false, false, false, false, false] rfl rfl (any_of HT_.out zb9) (fun _ _ _ h => h) (Or.inl ⟨by rfl, ?_⟩) ?_ ?_
       rotate_left
       ·intro w'
        go_simp
        first | with_reducible rfl | (rw [if_neg zb1])
       rotate_left
       ·simp only [Act.put, List.setIfInBounds_toArray, List.set_cons_zero, List.set_cons_succ, i64_w, i32_w]
        rfl
       refine pure_ (i := 2) (N := some 16) (v := ?_) (a' := ?_) #[true, true, true, false, false, false, false, false, false, false, false, false, false, false, false, false] rfl rfl (any_of HT_.out zb9) (fun _ _ _ h => h) (Or.inl ⟨by rfl, ?_⟩) ?_ ?_
       rotate_left
       ·intro w'
        go_simp
        first | with_reducible rfl | (rw [if_neg zb1])
       rotate_left
       ·simp only [Act.put, List.setIfInBounds_toArray, List.set_cons_zero, List.set_cons_succ, i64_w, i32_w]
        rfl
       refine pure_ (i := 3) (N := some 17) (v := ?_) (a' := ?_) #[true, true, true, true, false, false, false, false, false, false, false, false, false, false, false, false] rfl rfl (any_of HT_.out zb9) (fun _ _ _ h => h) (Or.inl ⟨by rfl, ?_⟩) ?_ ?_
       rotate_left
       ·intro w'
        go_simp
        first | with_reducible rfl | (rw [if_neg zb1])
       rotate_left
       ·simp only [Act.put, List.setIfInBounds_toArray, List.set_cons_zero, List.set_cons_succ, i64_w, i32_w]
        rfl
       refine take_ (i := 4) (N := some 18) (v := ?_) (a' := ?_) #[true, true, true, true, true, false, false, false, false, false, false, false, false, false, false, false] rfl rfl (take_ofW HT_.out HW_.out zb9) (fun _ _ _ h => h) (Or.inl ⟨by rfl, ?_⟩) hHeld ?_ ?_
       rotate_left
       ·rintro w' ⟨s0, s1, s2, s3, s4, s5, s6, s7, s8, s9, s10, s11, s12⟩
        go_simp
        first | with_reducible rfl | (rw [if_neg zb1])
       rotate_left
       ·simp only [Act.put, List.setIfInBounds_toArray, List.set_cons_zero, List.set_cons_succ, i64_w, i32_w]
        rfl
       refine take_ (i := 5) (N := some 19) (v := ?_) (a' := ?_) #[true, true, true, true, true, true, false, false, false, false, false, false, false, false, false, false] rfl rfl (take_ofW HT_.out HW_.out zb9) (fun _ _ _ h => h) (Or.inl ⟨by rfl, ?_⟩) hHeld ?_ ?_
       rotate_left
       ·rintro w' ⟨s0, s1, s2, s3, s4, s5, s6, s7, s8, s9, s10, s11, s12⟩
        go_simp
        first | with_reducible rfl | (rw [if_neg zb1])
       rotate_left
       ·simp only [Act.put, List.setIfInBounds_toArray, List.set_cons_zero, List.set_cons_succ, i64_w, i32_w]
        rfl
       refine one_ (i := 6) (N := some 20) #[true, true, true, true, true, true, true, false, false, false, false, false, false, false, false, false] rfl rfl (one_of HT_.out zb9) zb47 (fun K hK => ?_)
       refine goes_ Tryz.func36 zb9 rfl #[.agg #[.string ((rd_T71 l0 x7_1).f0.f0), .string ((rd_T71 l0 x7_1).f0.f1), .slice A256_2 ((rd_T71 l0 x7_1).f0.f2).length c256_2], .agg #[.string a1_0, .string a1_1, .slice A1_2 l1_2.length c1_2]] (by rfl) rfl rfl zb2 ?_
       with_reducible refine (broadsheetref13_Fits.calls k1 ((rd_T71 l0 x7_1).f0.f0) ((rd_T71 l0 x7_1).f0.f1) _ _ ((rd_T71 l0 x7_1).f0.f2) a1_0 a1_1 _ _ l1_2 true _ ?side1 ?side2 ?side3 ?side4 A6.out).mono ?_
       (case side1 => repeat (first | exact (Kd.C_below HR256_2.out HB.out) | (with_reducible refine Kd.C_alloc ?_ _) | (with_reducible refine Kd.C_drewN ?_ _) | (with_reducible refine Kd.C_drew ?_)))
       (case side2 => exact HC256_2.out)
       (case side3 => repeat (first | exact (Kd.C_below HR1_2.out HB.out) | (with_reducible refine Kd.C_alloc ?_ _) | (with_reducible refine Kd.C_drewN ?_ _) | (with_reducible refine Kd.C_drew ?_)))
       (case side4 => exact HC1_2.out)
       rintro e w10 ⟨rfl, hb⟩
       refine ⟨_, rfl, ?_⟩
       have n0_ := Aside0.mk (blk_below (g := gb255) (o := .cells #[.string a1_0, .string a1_1, .slice A1_2 l1_2.length c1_2] 40 (0, 0)) zb52 hb)
       have n1_ := Aside0.mk (below_step zb40 hb)
       clear BK255
       clear HB
       have BK255 := n0_
       have HB := n1_
       clear n0_ n1_
       (try clear hb)
       (try clear hb2)
       (try clear hk)
       (try clear hi)
       refine hK.out _ _ ⟨(blk_cell BK255.out 0).trans rfl, (blk_cell BK255.out 1).trans rfl, (blk_cell BK255.out 2).trans rfl, ((HB.out.cell (World.block_lt_of_cell? w _ hw256_0)).trans hw256_0), ((HB.out.cell (World.block_lt_of_cell? w _ hw256_1)).trans hw256_1), ((HB.out.cell (World.block_lt_of_cell? w _ hw256_2)).trans hw256_2), ((HB.out.cell (World.block_lt_of_cell? w _ hw256_3)).trans hw256_3), ((HB.out.cell (World.block_lt_of_cell? w _ hw256_4)).trans hw256_4), ((HB.out.cell (World.block_lt_of_cell? w _ hw258_0)).trans hw258_0), ((HB.out.cell (World.block_lt_of_cell? w _ hw258_1)).trans hw258_1), ((HB.out.cell (World.block_lt_of_cell? w _ hw258_2)).trans hw258_2), ((HB.out.cell (World.block_lt_of_cell? w _ hw258_3)).trans hw258_3), ((HB.out.cell (World.block_lt_of_cell? w _ hw258_4)).trans hw258_4)⟩ (fun hHeld => ?_)
       clear hK K
       refine norm_ (a' := ?_) ?_ ?_
       rotate_left
       ·show Act.put _ (some 20) _ = _
        simp only [Act.put, List.setIfInBounds_toArray, List.set_cons_zero, List.set_cons_succ, i64_w, i32_w]
        rfl
       refine pure_ (i := 7) (N := some 21) (v := ?_) (a' := ?_) #[true, true, true, true, true, true, true, true, false, false, false, false, false, false, false, false] rfl rfl (any_of HT_.out zb9) (fun _ _ _ h => h) (Or.inl ⟨by rfl, ?_⟩) ?_ ?_
       rotate_left
       ·intro w'
        go_simp
        first | with_reducible rfl | (rw [if_neg zb1])
       rotate_left
       ·simp only [Act.put, List.setIfInBounds_toArray, List.set_cons_zero, List.set_cons_succ, i64_w, i32_w]
        rfl
       refine pure_ (i := 8) (N := some 22) (v := ?_) (a' := ?_) #[true, true, true, true, true, true, true, true, true, false, false, false, false, false, false, false] rfl rfl (any_of HT_.out zb9) (fun _ _ _ h => h) (Or.inl ⟨by rfl, ?_⟩) ?_ ?_
       rotate_left
       ·intro w'
        go_simp
        first | with_reducible rfl | (rw [if_neg zb1])
       rotate_left
       ·simp only [Act.put, List.setIfInBounds_toArray, List.set_cons_zero, List.set_cons_succ, i64_w, i32_w]
        rfl
       refine pure_ (i := 9) (N := some 23) (v := ?_) (a' := ?_) #[true, true, true, true, true, true, true, true, true, true, false, false, false, false, false, false] rfl rfl (any_of HT_.out zb9) (fun _ _ _ h => h) (Or.inl ⟨by rfl, ?_⟩) ?_ ?_
       rotate_left
       ·intro w'
        go_simp
        first | with_reducible rfl | (rw [if_neg zb1])
       rotate_left
       ·simp only [Act.put, List.setIfInBounds_toArray, List.set_cons_zero, List.set_cons_succ, i64_w, i32_w]
        rfl
       refine pure_ (i := 10) (N := some 24) (v := ?_) (a' := ?_) #[true, true, true, true, true, true, true, true, true, true, true, false, false, false, false, false] rfl rfl (any_of HT_.out zb9) (fun _ _ _ h => h) (Or.inl ⟨by rfl, ?_⟩) ?_ ?_
       rotate_left
       ·intro w'
        go_simp
        first | with_reducible rfl | (rw [if_neg zb1])
       rotate_left
       ·simp only [Act.put, List.setIfInBounds_toArray, List.set_cons_zero, List.set_cons_succ, i64_w, i32_w]
        rfl
       refine pure_ (i := 11) (N := some 25) (v := ?_) (a' := ?_) #[true, true, true, true, true, true, true, true, true, true, true, true, false, false, false, false] rfl rfl (any_of HT_.out zb9) (fun _ _ _ h => h) (Or.inl ⟨by rfl, ?_⟩) ?_ ?_
       rotate_left
       ·intro w'
        go_simp
        first | with_reducible rfl | (rw [if_neg zb1])
       rotate_left
       ·simp only [Act.put, List.setIfInBounds_toArray, List.set_cons_zero, List.set_cons_succ, i64_w, i32_w]
        rfl
       refine pure_ (i := 13) (N := some 27) (v := ?_) (a' := ?_) #[true, true, true, true, true, true, true, true, true, true, true, true, false, true, false, false] rfl rfl (any_of HT_.out zb9) (fun _ _ _ h => h) (Or.inl ⟨by rfl, ?_⟩) ?_ ?_
       rotate_left
       ·intro w'
        go_simp
        first | with_reducible rfl | (rw [if_neg zb1])
       rotate_left
       ·simp only [Act.put, List.setIfInBounds_toArray, List.set_cons_zero, List.set_cons_succ, i64_w, i32_w]
        rfl
       refine take_ (i := 12) (N := some 26) (v := ?_) (a' := ?_) #[true, true, true, true, true, true, true, true, true, true, true, true, true, true, false, false] rfl rfl (take_ofW HT_.out HW_.out zb9) (fun _ _ _ h => h) (Or.inl ⟨by rfl, ?_⟩) hHeld ?_ ?_
       rotate_left
       ·rintro w' ⟨s0, s1, s2, s3, s4, s5, s6, s7, s8, s9, s10, s11, s12⟩
        go_simp
        first | with_reducible rfl | (rw [if_neg zb1])
       rotate_left
       ·simp only [Act.put, List.setIfInBounds_toArray, List.set_cons_zero, List.set_cons_succ, i64_w, i32_w]
        rfl
       refine pure_ (i := 14) (N := some 28) (v := ?_) (a' := ?_) #[true, true, true, true, true, true, true, true, true, true, true, true, true, true, true, false] rfl rfl (any_of HT_.out zb9) (fun _ _ _ h => h) (Or.inl ⟨by rfl, ?_⟩) ?_ ?_
       rotate_left
       ·intro w'
        go_simp
        first | with_reducible rfl | (rw [if_neg zb1])
       rotate_left
       ·simp only [Act.put, List.setIfInBounds_toArray, List.set_cons_zero, List.set_cons_succ, i64_w, i32_w]
        rfl
       refine pure_ (i := 15) (N := some 29) (v := ?_) (a' := ?_) #[true, true, true, true, true, true, true, true, true, true, true, true, true, true, true, true] rfl rfl (any_of HT_.out zb9) (fun _ _ _ h => h) (Or.inl ⟨by rfl, ?_⟩) ?_ ?_
       rotate_left
       ·intro w'
        go_simp
        first | with_reducible rfl | (rw [if_neg zb1])
       rotate_left
       ·simp only [Act.put, List.setIfInBounds_toArray, List.set_cons_zero, List.set_cons_succ, i64_w, i32_w]
        rfl
       refine done_ (done_of HT_.out zb9) ?_
       try go_wp2
       have n0_ := Aside0.mk (blk_drew BK255.out)
       have n1_ := Aside0.mk (below_drew1 HB.out)
       clear BK255
       clear HB
       have BK255 := n0_
       have HB := n1_
       clear n0_ n1_
       have p259 : 0 ≤ (x7_1 : Int) := of_decide_eq_true zb3
       have q259 : x7_1 < (l0.length : Int) := of_decide_eq_true zb3
       obtain ⟨ad259, A259_2, c259_2, e259, hx259_0, hx259_1, hx259_2, hx259_3, hx259_4, hl259_2, hi259_2⟩ := at_T71 HR0.out x7_1 p259 q259
       have hw259_4 := hx259_4
       have hw259_3 := hx259_3
       have hw259_2 := hx259_2
       have hw259_1 := hx259_1
       have hw259_0 := hx259_0
       obtain rfl : ad256 = ad259 := (by injection e259)
       replace hx259_0 := (HB.out.cell (World.block_lt_of_cell? w _ hx259_0)).trans hx259_0
       replace hx259_1 := (HB.out.cell (World.block_lt_of_cell? w _ hx259_1)).trans hx259_1
       replace hx259_2 := (HB.out.cell (World.block_lt_of_cell? w _ hx259_2)).trans hx259_2
       replace hx259_3 := (HB.out.cell (World.block_lt_of_cell? w _ hx259_3)).trans hx259_3
       replace hx259_4 := (HB.out.cell (World.block_lt_of_cell? w _ hx259_4)).trans hx259_4
       have HR259_2 := Aside0.mk hi259_2
       have HC259_2 := Aside0.mk hl259_2
       clear hi259_2 hl259_2
       replace p259 := eq_true p259
       replace q259 := eq_true q259
       have p260 : 0 ≤ (x7_1 : Int) := of_decide_eq_true zb3
       have q260 : x7_1 < (l0.length : Int) := of_decide_eq_true zb3
       obtain ⟨ad260, A260_2, c260_2, e260, hx260_0, hx260_1, hx260_2, hx260_3, hx260_4, hl260_2, hi260_2⟩ := at_T71 HR0.out x7_1 p260 q260
       have hw260_4 := hx260_4
       have hw260_3 := hx260_3
       have hw260_2 := hx260_2
       have hw260_1 := hx260_1
       have hw260_0 := hx260_0
       obtain rfl : ad256 = ad260 := (by injection e260)
       replace hx260_0 := (HB.out.cell (World.block_lt_of_cell? w _ hx260_0)).trans hx260_0
       replace hx260_1 := (HB.out.cell (World.block_lt_of_cell? w _ hx260_1)).trans hx260_1
       replace hx260_2 := (HB.out.cell (World.block_lt_of_cell? w _ hx260_2)).trans hx260_2
       replace hx260_3 := (HB.out.cell (World.block_lt_of_cell? w _ hx260_3)).trans hx260_3
       replace hx260_4 := (HB.out.cell (World.block_lt_of_cell? w _ hx260_4)).trans hx260_4
       have HR260_2 := Aside0.mk hi260_2
       have HC260_2 := Aside0.mk hl260_2
       clear hi260_2 hl260_2
       replace p260 := eq_true p260
       replace q260 := eq_true q260
       have ea_ := Option.some.inj (hx259_2.symm.trans hx260_2)
       injection ea_ with ea_ en_ ec_
       subst ea_
       subst ec_
       clear en_
       refine start_ (n := 12) (S := fun w' => w'.cell? (ad256.add ((x7_1).toNat * 5)) = some (.string ((rd_T71 l0 x7_1).f0.f0)) ∧ w'.cell? ⟨(ad256.add ((x7_1).toNat * 5)).block, (ad256.add ((x7_1).toNat * 5)).off + 1, none⟩ = some (.string ((rd_T71 l0 x7_1).f0.f1)) ∧ w'.cell? ⟨(ad256.add ((x7_1).toNat * 5)).block, (ad256.add ((x7_1).toNat * 5)).off + 2, none⟩ = some (.slice A259_2 ((rd_T71 l0 x7_1).f0.f2).length c259_2) ∧ w'.cell? ⟨(ad256.add ((x7_1).toNat * 5)).block, (ad256.add ((x7_1).toNat * 5)).off + 3, none⟩ = some (.float .f64 ((rd_T71 l0 x7_1).f1)) ∧ w'.cell? ⟨(ad256.add ((x7_1).toNat * 5)).block, (ad256.add ((x7_1).toNat * 5)).off + 4, none⟩ = some (.int .i64 ((rd_T71 l0 x7_1).f2)) ∧ w'.cell? (ad256.add ((x7_1).toNat * 5)) = some (.string ((rd_T71 l0 x7_1).f0.f0)) ∧ w'.cell? ⟨(ad256.add ((x7_1).toNat * 5)).block, (ad256.add ((x7_1).toNat * 5)).off + 1, none⟩ = some (.string ((rd_T71 l0 x7_1).f0.f1)) ∧ w'.cell? ⟨(ad256.add ((x7_1).toNat * 5)).block, (ad256.add ((x7_1).toNat * 5)).off + 2, none⟩ = some (.slice A259_2 ((rd_T71 l0 x7_1).f0.f2).length c259_2) ∧ w'.cell? ⟨(ad256.add ((x7_1).toNat * 5)).block, (ad256.add ((x7_1).toNat * 5)).off + 3, none⟩ = some (.float .f64 ((rd_T71 l0 x7_1).f1)) ∧ w'.cell? ⟨(ad256.add ((x7_1).toNat * 5)).block, (ad256.add ((x7_1).toNat * 5)).off + 4, none⟩ = some (.int .i64 ((rd_T71 l0 x7_1).f2))) (ds := []) #[false, false, false, false, false, false, false, false, false, false, false, false] zb9 rfl rfl ⟨((HB.out.cell (World.block_lt_of_cell? w _ hw259_0)).trans hw259_0), ((HB.out.cell (World.block_lt_of_cell? w _ hw259_1)).trans hw259_1), ((HB.out.cell (World.block_lt_of_cell? w _ hw259_2)).trans hw259_2), ((HB.out.cell (World.block_lt_of_cell? w _ hw259_3)).trans hw259_3), ((HB.out.cell (World.block_lt_of_cell? w _ hw259_4)).trans hw259_4), ((HB.out.cell (World.block_lt_of_cell? w _ hw260_0)).trans hw260_0), ((HB.out.cell (World.block_lt_of_cell? w _ hw260_1)).trans hw260_1), ((HB.out.cell (World.block_lt_of_cell? w _ hw260_2)).trans hw260_2), ((HB.out.cell (World.block_lt_of_cell? w _ hw260_3)).trans hw260_3), ((HB.out.cell (World.block_lt_of_cell? w _ hw260_4)).trans hw260_4)⟩ (fun hHeld => ?_); refine with_tabW broadsheetref14_Of.tab6 broadsheetref14_Of.bits6 (fun HT_ HW_ => ?_)
       generalize w10.drew = w11 at BK255 HB HR259_2 HR260_2 hx259_0 hx259_1 hx259_2 hx259_3 hx259_4 hx260_0 hx260_1 hx260_2 hx260_3 hx260_4 hHeld ⊢
       refine pure_ (i := 0) (N := some 30) (v := ?_) (a' := ?_) #[true, false, false, false, false, false, false, false, false, false, false, false] rfl rfl (any_of HT_.out zb9) (fun _ _ _ h => h) (Or.inl ⟨by rfl, ?_⟩) ?_ ?_
       rotate_left
       ·intro w'
        go_simp
        first | with_reducible rfl | (rw [if_neg zb1])
       rotate_left
       ·simp only [Act.put, List.setIfInBounds_toArray, List.set_cons_zero, List.set_cons_succ, i64_w, i32_w]
        rfl
       refine pure_ (i := 1) (N := some 31) (v := ?_) (a' := ?_) #[true, true, false, false, false, false, false, false, false, false, false, false] rfl rfl (any_of HT_.out zb9) (fun _ _ _ h => h) (Or.inl ⟨by rfl, ?_⟩) ?_ ?_
       rotate_left
       ·intro w'
        go_simp
        first | with_reducible rfl | (rw [if_neg zb1])
       rotate_left
       ·simp only [Act.put, List.setIfInBounds_toArray, List.set_cons_zero, List.set_cons_succ, i64_w, i32_w]
        rfl
       refine pure_ (i := 2) (N := some 32) (v := ?_) (a' := ?_) #[true, true, true, false, false, false, false, false, false, false, false, false] rfl rfl (any_of HT_.out zb9) (fun _ _ _ h => h) (Or.inl ⟨by rfl, ?_⟩) ?_ ?_
       rotate_left
       ·intro w'
        go_simp
        first | with_reducible rfl | (rw [if_neg zb1])
       rotate_left
       ·simp only [Act.put, List.setIfInBounds_toArray, List.set_cons_zero, List.set_cons_succ, i64_w, i32_w]
        rfl
       refine pure_ (i := 3) (N := some 33) (v := ?_) (a' := ?_) #[true, true, true, true, false, false, false, false, false, false, false, false] rfl rfl (any_of HT_.out zb9) (fun _ _ _ h => h) (Or.inl ⟨by rfl, ?_⟩) ?_ ?_
       rotate_left
       ·intro w'
        go_simp
        first | with_reducible rfl | (rw [if_neg zb1])
       rotate_left
       ·simp only [Act.put, List.setIfInBounds_toArray, List.set_cons_zero, List.set_cons_succ, i64_w, i32_w]
        rfl
       refine pure_ (i := 5) (N := some 35) (v := ?_) (a' := ?_) #[true, true, true, true, false, true, false, false, false, false, false, false] rfl rfl (any_of HT_.out zb9) (fun _ _ _ h => h) (Or.inl ⟨by rfl, ?_⟩) ?_ ?_
       rotate_left
       ·intro w'
        go_simp
        first | with_reducible rfl | (rw [if_neg zb1])
       rotate_left
       ·simp only [Act.put, List.setIfInBounds_toArray, List.set_cons_zero, List.set_cons_succ, i64_w, i32_w]
        rfl
       refine pure_ (i := 6) (N := some 36) (v := ?_) (a' := ?_) #[true, true, true, true, false, true, true, false, false, false, false, false] rfl rfl (any_of HT_.out zb9) (fun _ _ _ h => h) (Or.inl ⟨by rfl, ?_⟩) ?_ ?_
       rotate_left
       ·intro w'
        go_simp
        first | with_reducible rfl | (rw [if_neg zb1])
       rotate_left
       ·simp only [Act.put, List.setIfInBounds_toArray, List.set_cons_zero, List.set_cons_succ, i64_w, i32_w]
        rfl
       refine pure_ (i := 7) (N := some 37) (v := ?_) (a' := ?_) #[true, true, true, true, false, true, true, true, false, false, false, false] rfl rfl (any_of HT_.out zb9) (fun _ _ _ h => h) (Or.inl ⟨by rfl, ?_⟩) ?_ ?_
       rotate_left
       ·intro w'
        go_simp
        first | with_reducible rfl | (rw [if_neg zb1])
       rotate_left
       ·simp only [Act.put, List.setIfInBounds_toArray, List.set_cons_zero, List.set_cons_succ, i64_w, i32_w]
        rfl
       refine pure_ (i := 8) (N := some 38) (v := ?_) (a' := ?_) #[true, true, true, true, false, true, true, true, true, false, false, false] rfl rfl (any_of HT_.out zb9) (fun _ _ _ h => h) (Or.inl ⟨by rfl, ?_⟩) ?_ ?_
       rotate_left
       ·intro w'
        go_simp
        first | with_reducible rfl | (rw [if_neg zb1])
       rotate_left
       ·simp only [Act.put, List.setIfInBounds_toArray, List.set_cons_zero, List.set_cons_succ, i64_w, i32_w]
        rfl
       refine take_ (i := 4) (N := some 34) (v := ?_) (a' := ?_) #[true, true, true, true, true, true, true, true, true, false, false, false] rfl rfl (take_ofW HT_.out HW_.out zb9) (fun _ _ _ h => h) (Or.inl ⟨by rfl, ?_⟩) hHeld ?_ ?_
       rotate_left
       ·rintro w' ⟨s0, s1, s2, s3, s4, s5, s6, s7, s8, s9⟩
        go_simp
        first | with_reducible rfl | (rw [if_neg zb1])
       rotate_left
       ·simp only [Act.put, List.setIfInBounds_toArray, List.set_cons_zero, List.set_cons_succ, i64_w, i32_w]
        rfl
       refine pure_ (i := 10) (N := some 5) (v := ?_) (a' := ?_) #[true, true, true, true, true, true, true, true, true, false, true, false] rfl rfl (any_of HT_.out zb9) (fun _ _ _ h => h) (Or.inl ⟨by rfl, ?_⟩) ?_ ?_
       rotate_left
       ·intro w'
        go_simp
        first | with_reducible rfl | (rw [if_neg zb1])
       rotate_left
       ·simp only [Act.put, List.setIfInBounds_toArray, List.set_cons_zero, List.set_cons_succ, i64_w, i32_w]
        rfl
       refine take_ (i := 9) (N := some 39) (v := ?_) (a' := ?_) #[true, true, true, true, true, true, true, true, true, true, true, false] rfl rfl (take_ofW HT_.out HW_.out zb9) (fun _ _ _ h => h) (Or.inl ⟨by rfl, ?_⟩) hHeld ?_ ?_
       rotate_left
       ·rintro w' ⟨s0, s1, s2, s3, s4, s5, s6, s7, s8, s9⟩
        go_simp
        first | with_reducible rfl | (rw [if_neg zb1])
       rotate_left
       ·simp only [Act.put, List.setIfInBounds_toArray, List.set_cons_zero, List.set_cons_succ, i64_w, i32_w]
        rfl
       refine pure_ (i := 11) (N := some 6) (v := ?_) (a' := ?_) #[true, true, true, true, true, true, true, true, true, true, true, true] rfl rfl (any_of HT_.out zb9) (fun _ _ _ h => h) (Or.inl ⟨by rfl, ?_⟩) ?_ ?_
       rotate_left
       ·intro w'
        go_simp
        first | with_reducible rfl | (rw [if_neg zb1])
       rotate_left
       ·simp only [Act.put, List.setIfInBounds_toArray, List.set_cons_zero, List.set_cons_succ, i64_w, i32_w]
        rfl
       refine done_ (done_of HT_.out zb9) ?_
       try go_wp2
       go_roundg k1
       case measure => have := HK1.out; omega
       case rel => exact ⟨((rd_T71 l0 x7_1).f1), ((rd_T71 l0 x7_1).f2), (wrap64 (x7_1 + 1)), zb4, zb4, zb4, H', ⟨by have := HK1.out; omega⟩, ⟨by (with_reducible repeat (first | refine blk_drewN ?_ _ | refine blk_drew ?_ | refine blk_alloc ?_ _)); exact BK255.out⟩, ⟨by repeat (first | (with_reducible first | exact HB.out | apply below_alloc | apply pw_below_drewN | apply below_drew1 | refine below_set ?_ GE255.out) | exact HB.out)⟩⟩
      ·rw [if_neg c8] at H
       have c8b0 : decide (x6_1 < ((rd_T71 l0 x7_1).f2)) = false := decide_eq_false c8
       clear c8
       have H' := Aside0.mk H
       clear H
       try go_wp2
       have n0_ := Aside0.mk (blk_drew BK255.out)
       have n1_ := Aside0.mk (below_drew1 HB.out)
       clear BK255
       clear HB
       have BK255 := n0_
       have HB := n1_
       clear n0_ n1_
       have p256 : 0 ≤ (x7_1 : Int) := of_decide_eq_true zb3
       have q256 : x7_1 < (l0.length : Int) := of_decide_eq_true zb3
       obtain ⟨ad256, A256_2, c256_2, e256, hx256_0, hx256_1, hx256_2, hx256_3, hx256_4, hl256_2, hi256_2⟩ := at_T71 HR0.out x7_1 p256 q256
       have hw256_4 := hx256_4
       have hw256_3 := hx256_3
       have hw256_2 := hx256_2
       have hw256_1 := hx256_1
       have hw256_0 := hx256_0
       cases e256
       replace hx256_0 := (HB.out.cell (World.block_lt_of_cell? w _ hx256_0)).trans hx256_0
       replace hx256_1 := (HB.out.cell (World.block_lt_of_cell? w _ hx256_1)).trans hx256_1
       replace hx256_2 := (HB.out.cell (World.block_lt_of_cell? w _ hx256_2)).trans hx256_2
       replace hx256_3 := (HB.out.cell (World.block_lt_of_cell? w _ hx256_3)).trans hx256_3
       replace hx256_4 := (HB.out.cell (World.block_lt_of_cell? w _ hx256_4)).trans hx256_4
       have HR256_2 := Aside0.mk hi256_2
       have HC256_2 := Aside0.mk hl256_2
       clear hi256_2 hl256_2
       replace p256 := eq_true p256
       replace q256 := eq_true q256
       have p258 : 0 ≤ (x7_1 : Int) := of_decide_eq_true zb3
       have q258 : x7_1 < (l0.length : Int) := of_decide_eq_true zb3
       obtain ⟨ad258, A258_2, c258_2, e258, hx258_0, hx258_1, hx258_2, hx258_3, hx258_4, hl258_2, hi258_2⟩ := at_T71 HR0.out x7_1 p258 q258
       have hw258_4 := hx258_4
       have hw258_3 := hx258_3
       have hw258_2 := hx258_2
       have hw258_1 := hx258_1
       have hw258_0 := hx258_0
       obtain rfl : ad256 = ad258 := (by injection e258)
       replace hx258_0 := (HB.out.cell (World.block_lt_of_cell? w _ hx258_0)).trans hx258_0
       replace hx258_1 := (HB.out.cell (World.block_lt_of_cell? w _ hx258_1)).trans hx258_1
       replace hx258_2 := (HB.out.cell (World.block_lt_of_cell? w _ hx258_2)).trans hx258_2
       replace hx258_3 := (HB.out.cell (World.block_lt_of_cell? w _ hx258_3)).trans hx258_3
       replace hx258_4 := (HB.out.cell (World.block_lt_of_cell? w _ hx258_4)).trans hx258_4
       have HR258_2 := Aside0.mk hi258_2
       have HC258_2 := Aside0.mk hl258_2
       clear hi258_2 hl258_2
       replace p258 := eq_true p258
       replace q258 := eq_true q258
       refine start_ (n := 16) (S := fun w' => w'.cell? ⟨gb255, 0, none⟩ = some (.string a1_0) ∧ w'.cell? ⟨gb255, 1, none⟩ = some (.string a1_1) ∧ w'.cell? ⟨gb255, 2, none⟩ = some (.slice A1_2 l1_2.length c1_2) ∧ w'.cell? (ad256.add ((x7_1).toNat * 5)) = some (.string ((rd_T71 l0 x7_1).f0.f0)) ∧ w'.cell? ⟨(ad256.add ((x7_1).toNat * 5)).block, (ad256.add ((x7_1).toNat * 5)).off + 1, none⟩ = some (.string ((rd_T71 l0 x7_1).f0.f1)) ∧ w'.cell? ⟨(ad256.add ((x7_1).toNat * 5)).block, (ad256.add ((x7_1).toNat * 5)).off + 2, none⟩ = some (.slice A256_2 ((rd_T71 l0 x7_1).f0.f2).length c256_2) ∧ w'.cell? ⟨(ad256.add ((x7_1).toNat * 5)).block, (ad256.add ((x7_1).toNat * 5)).off + 3, none⟩ = some (.float .f64 ((rd_T71 l0 x7_1).f1)) ∧ w'.cell? ⟨(ad256.add ((x7_1).toNat * 5)).block, (ad256.add ((x7_1).toNat * 5)).off + 4, none⟩ = some (.int .i64 ((rd_T71 l0 x7_1).f2)) ∧ w'.cell? (ad256.add ((x7_1).toNat * 5)) = some (.string ((rd_T71 l0 x7_1).f0.f0)) ∧ w'.cell? ⟨(ad256.add ((x7_1).toNat * 5)).block, (ad256.add ((x7_1).toNat * 5)).off + 1, none⟩ = some (.string ((rd_T71 l0 x7_1).f0.f1)) ∧ w'.cell? ⟨(ad256.add ((x7_1).toNat * 5)).block, (ad256.add ((x7_1).toNat * 5)).off + 2, none⟩ = some (.slice A258_2 ((rd_T71 l0 x7_1).f0.f2).length c258_2) ∧ w'.cell? ⟨(ad256.add ((x7_1).toNat * 5)).block, (ad256.add ((x7_1).toNat * 5)).off + 3, none⟩ = some (.float .f64 ((rd_T71 l0 x7_1).f1)) ∧ w'.cell? ⟨(ad256.add ((x7_1).toNat * 5)).block, (ad256.add ((x7_1).toNat * 5)).off + 4, none⟩ = some (.int .i64 ((rd_T71 l0 x7_1).f2))) (ds := []) #[false, false, false, false, false, false, false, false, false, false, false, false, false, false, false, false] zb9 rfl rfl ⟨(blk_cell BK255.out 0).trans rfl, (blk_cell BK255.out 1).trans rfl, (blk_cell BK255.out 2).trans rfl, ((HB.out.cell (World.block_lt_of_cell? w _ hw256_0)).trans hw256_0), ((HB.out.cell (World.block_lt_of_cell? w _ hw256_1)).trans hw256_1), ((HB.out.cell (World.block_lt_of_cell? w _ hw256_2)).trans hw256_2), ((HB.out.cell (World.block_lt_of_cell? w _ hw256_3)).trans hw256_3), ((HB.out.cell (World.block_lt_of_cell? w _ hw256_4)).trans hw256_4), ((HB.out.cell (World.block_lt_of_cell? w _ hw258_0)).trans hw258_0), ((HB.out.cell (World.block_lt_of_cell? w _ hw258_1)).trans hw258_1), ((HB.out.cell (World.block_lt_of_cell? w _ hw258_2)).trans hw258_2), ((HB.out.cell (World.block_lt_of_cell? w _ hw258_3)).trans hw258_3), ((HB.out.cell (World.block_lt_of_cell? w _ hw258_4)).trans hw258_4)⟩ (fun hHeld => ?_); refine with_tabW broadsheetref14_Of.tab5 broadsheetref14_Of.bits5 (fun HT_ HW_ => ?_)
       generalize wr.drew = w12 at BK255 HB HR256_2 HR258_2 hx256_0 hx256_1 hx256_2 hx256_3 hx256_4 hx258_0 hx258_1 hx258_2 hx258_3 hx258_4 hHeld ⊢
       refine pure_ (i := 0) (N := some 14) (v := ?_) (a' := ?_) #[true, false, false, false, false, false, false, false, false, false, false, false, false, false, false, false] rfl rfl (any_of HT_.out zb9) (fun _ _ _ h => h) (Or.inl ⟨by rfl, ?_⟩) ?_ ?_
       rotate_left
       ·intro w'
        go_simp
        first | with_reducible rfl | (rw [if_neg zb1])
       rotate_left
       ·simp only [Act.put, List.setIfInBounds_toArray, List.set_cons_zero, List.set_cons_succ, i64_w, i32_w]
        rfl
       refine pure_ (i := 1) (N := some 15) (v := ?_) (a' := ?_) #[true, true, false, false, false, false, false, false, false, false, false, false, false, false, false, false] rfl rfl (any_of HT_.out zb9) (fun _ _ _ h => h) (Or.inl ⟨by rfl, ?_⟩) ?_ ?_
       rotate_left
       ·intro w'
        go_simp
        first | with_reducible rfl | (rw [if_neg zb1])
       rotate_left
       ·simp only [Act.put, List.setIfInBounds_toArray, List.set_cons_zero, List.set_cons_succ, i64_w, i32_w]
        rfl
       refine pure_ (i := 2) (N := some 16) (v := ?_) (a' := ?_) #[true, true, true, false, false, false, false, false, false, false, false, false, false, false, false, false] rfl rfl (any_of HT_.out zb9) (fun _ _ _ h => h) (Or.inl ⟨by rfl, ?_⟩) ?_ ?_
       rotate_left
       ·intro w'
        go_simp
        first | with_reducible rfl | (rw [if_neg zb1])
       rotate_left
       ·simp only [Act.put, List.setIfInBounds_toArray, List.set_cons_zero, List.set_cons_succ, i64_w, i32_w]
        rfl
       refine pure_ (i := 3) (N := some 17) (v := ?_) (a' := ?_) #[true, true, true, true, false, false, false, false, false, false, false, false, false, false, false, false] rfl rfl (any_of HT_.out zb9) (fun _ _ _ h => h) (Or.inl ⟨by rfl, ?_⟩) ?_ ?_
       rotate_left
       ·intro w'
        go_simp
        first | with_reducible rfl | (rw [if_neg zb1])
       rotate_left
       ·simp only [Act.put, List.setIfInBounds_toArray, List.set_cons_zero, List.set_cons_succ, i64_w, i32_w]
        rfl
       refine take_ (i := 4) (N := some 18) (v := ?_) (a' := ?_) #[true, true, true, true, true, false, false, false, false, false, false, false, false, false, false, false] rfl rfl (take_ofW HT_.out HW_.out zb9) (fun _ _ _ h => h) (Or.inl ⟨by rfl, ?_⟩) hHeld ?_ ?_
       rotate_left
       ·rintro w' ⟨s0, s1, s2, s3, s4, s5, s6, s7, s8, s9, s10, s11, s12⟩
        go_simp
        first | with_reducible rfl | (rw [if_neg zb1])
       rotate_left
       ·simp only [Act.put, List.setIfInBounds_toArray, List.set_cons_zero, List.set_cons_succ, i64_w, i32_w]
        rfl
       refine take_ (i := 5) (N := some 19) (v := ?_) (a' := ?_) #[true, true, true, true, true, true, false, false, false, false, false, false, false, false, false, false] rfl rfl (take_ofW HT_.out HW_.out zb9) (fun _ _ _ h => h) (Or.inl ⟨by rfl, ?_⟩) hHeld ?_ ?_
       rotate_left
       ·rintro w' ⟨s0, s1, s2, s3, s4, s5, s6, s7, s8, s9, s10, s11, s12⟩
        go_simp
        first | with_reducible rfl | (rw [if_neg zb1])
       rotate_left
       ·simp only [Act.put, List.setIfInBounds_toArray, List.set_cons_zero, List.set_cons_succ, i64_w, i32_w]
        rfl
       refine one_ (i := 6) (N := some 20) #[true, true, true, true, true, true, true, false, false, false, false, false, false, false, false, false] rfl rfl (one_of HT_.out zb9) zb47 (fun K hK => ?_)
       refine goes_ Tryz.func36 zb9 rfl #[.agg #[.string ((rd_T71 l0 x7_1).f0.f0), .string ((rd_T71 l0 x7_1).f0.f1), .slice A256_2 ((rd_T71 l0 x7_1).f0.f2).length c256_2], .agg #[.string a1_0, .string a1_1, .slice A1_2 l1_2.length c1_2]] (by rfl) rfl rfl zb2 ?_
       with_reducible refine (broadsheetref13_Fits.calls k1 ((rd_T71 l0 x7_1).f0.f0) ((rd_T71 l0 x7_1).f0.f1) _ _ ((rd_T71 l0 x7_1).f0.f2) a1_0 a1_1 _ _ l1_2 true _ ?side1 ?side2 ?side3 ?side4 A6.out).mono ?_
       (case side1 => repeat (first | exact (Kd.C_below HR256_2.out HB.out) | (with_reducible refine Kd.C_alloc ?_ _) | (with_reducible refine Kd.C_drewN ?_ _) | (with_reducible refine Kd.C_drew ?_)))
       (case side2 => exact HC256_2.out)
       (case side3 => repeat (first | exact (Kd.C_below HR1_2.out HB.out) | (with_reducible refine Kd.C_alloc ?_ _) | (with_reducible refine Kd.C_drewN ?_ _) | (with_reducible refine Kd.C_drew ?_)))
       (case side4 => exact HC1_2.out)
       rintro e w13 ⟨rfl, hb⟩
       refine ⟨_, rfl, ?_⟩
       have n0_ := Aside0.mk (blk_below (g := gb255) (o := .cells #[.string a1_0, .string a1_1, .slice A1_2 l1_2.length c1_2] 40 (0, 0)) zb52 hb)
       have n1_ := Aside0.mk (below_step zb40 hb)
       clear BK255
       clear HB
       have BK255 := n0_
       have HB := n1_
       clear n0_ n1_
       (try clear hb)
       (try clear hb2)
       (try clear hk)
       (try clear hi)
       refine hK.out _ _ ⟨(blk_cell BK255.out 0).trans rfl, (blk_cell BK255.out 1).trans rfl, (blk_cell BK255.out 2).trans rfl, ((HB.out.cell (World.block_lt_of_cell? w _ hw256_0)).trans hw256_0), ((HB.out.cell (World.block_lt_of_cell? w _ hw256_1)).trans hw256_1), ((HB.out.cell (World.block_lt_of_cell? w _ hw256_2)).trans hw256_2), ((HB.out.cell (World.block_lt_of_cell? w _ hw256_3)).trans hw256_3), ((HB.out.cell (World.block_lt_of_cell? w _ hw256_4)).trans hw256_4), ((HB.out.cell (World.block_lt_of_cell? w _ hw258_0)).trans hw258_0), ((HB.out.cell (World.block_lt_of_cell? w _ hw258_1)).trans hw258_1), ((HB.out.cell (World.block_lt_of_cell? w _ hw258_2)).trans hw258_2), ((HB.out.cell (World.block_lt_of_cell? w _ hw258_3)).trans hw258_3), ((HB.out.cell (World.block_lt_of_cell? w _ hw258_4)).trans hw258_4)⟩ (fun hHeld => ?_)
       clear hK K
       refine norm_ (a' := ?_) ?_ ?_
       rotate_left
       ·show Act.put _ (some 20) _ = _
        simp only [Act.put, List.setIfInBounds_toArray, List.set_cons_zero, List.set_cons_succ, i64_w, i32_w]
        rfl
       refine pure_ (i := 7) (N := some 21) (v := ?_) (a' := ?_) #[true, true, true, true, true, true, true, true, false, false, false, false, false, false, false, false] rfl rfl (any_of HT_.out zb9) (fun _ _ _ h => h) (Or.inl ⟨by rfl, ?_⟩) ?_ ?_
       rotate_left
       ·intro w'
        go_simp
        first | with_reducible rfl | (rw [if_neg zb1])
       rotate_left
       ·simp only [Act.put, List.setIfInBounds_toArray, List.set_cons_zero, List.set_cons_succ, i64_w, i32_w]
        rfl
       refine pure_ (i := 8) (N := some 22) (v := ?_) (a' := ?_) #[true, true, true, true, true, true, true, true, true, false, false, false, false, false, false, false] rfl rfl (any_of HT_.out zb9) (fun _ _ _ h => h) (Or.inl ⟨by rfl, ?_⟩) ?_ ?_
       rotate_left
       ·intro w'
        go_simp
        first | with_reducible rfl | (rw [if_neg zb1])
       rotate_left
       ·simp only [Act.put, List.setIfInBounds_toArray, List.set_cons_zero, List.set_cons_succ, i64_w, i32_w]
        rfl
       refine pure_ (i := 9) (N := some 23) (v := ?_) (a' := ?_) #[true, true, true, true, true, true, true, true, true, true, false, false, false, false, false, false] rfl rfl (any_of HT_.out zb9) (fun _ _ _ h => h) (Or.inl ⟨by rfl, ?_⟩) ?_ ?_
       rotate_left
       ·intro w'
        go_simp
        first | with_reducible rfl | (rw [if_neg zb1])
       rotate_left
       ·simp only [Act.put, List.setIfInBounds_toArray, List.set_cons_zero, List.set_cons_succ, i64_w, i32_w]
        rfl
       refine pure_ (i := 10) (N := some 24) (v := ?_) (a' := ?_) #[true, true, true, true, true, true, true, true, true, true, true, false, false, false, false, false] rfl rfl (any_of HT_.out zb9) (fun _ _ _ h => h) (Or.inl ⟨by rfl, ?_⟩) ?_ ?_
       rotate_left
       ·intro w'
        go_simp
        first | with_reducible rfl | (rw [if_neg zb1])
       rotate_left
       ·simp only [Act.put, List.setIfInBounds_toArray, List.set_cons_zero, List.set_cons_succ, i64_w, i32_w]
        rfl
       refine pure_ (i := 11) (N := some 25) (v := ?_) (a' := ?_) #[true, true, true, true, true, true, true, true, true, true, true, true, false, false, false, false] rfl rfl (any_of HT_.out zb9) (fun _ _ _ h => h) (Or.inl ⟨by rfl, ?_⟩) ?_ ?_
       rotate_left
       ·intro w'
        go_simp
        first | with_reducible rfl | (rw [if_neg zb1])
       rotate_left
       ·simp only [Act.put, List.setIfInBounds_toArray, List.set_cons_zero, List.set_cons_succ, i64_w, i32_w]
        rfl
       refine pure_ (i := 13) (N := some 27) (v := ?_) (a' := ?_) #[true, true, true, true, true, true, true, true, true, true, true, true, false, true, false, false] rfl rfl (any_of HT_.out zb9) (fun _ _ _ h => h) (Or.inl ⟨by rfl, ?_⟩) ?_ ?_
       rotate_left
       ·intro w'
        go_simp
        first | with_reducible rfl | (rw [if_neg zb1])
       rotate_left
       ·simp only [Act.put, List.setIfInBounds_toArray, List.set_cons_zero, List.set_cons_succ, i64_w, i32_w]
        rfl
       refine take_ (i := 12) (N := some 26) (v := ?_) (a' := ?_) #[true, true, true, true, true, true, true, true, true, true, true, true, true, true, false, false] rfl rfl (take_ofW HT_.out HW_.out zb9) (fun _ _ _ h => h) (Or.inl ⟨by rfl, ?_⟩) hHeld ?_ ?_
       rotate_left
       ·rintro w' ⟨s0, s1, s2, s3, s4, s5, s6, s7, s8, s9, s10, s11, s12⟩
        go_simp
        first | with_reducible rfl | (rw [if_neg zb1])
       rotate_left
       ·simp only [Act.put, List.setIfInBounds_toArray, List.set_cons_zero, List.set_cons_succ, i64_w, i32_w]
        rfl
       refine pure_ (i := 14) (N := some 28) (v := ?_) (a' := ?_) #[true, true, true, true, true, true, true, true, true, true, true, true, true, true, true, false] rfl rfl (any_of HT_.out zb9) (fun _ _ _ h => h) (Or.inl ⟨by rfl, ?_⟩) ?_ ?_
       rotate_left
       ·intro w'
        go_simp
        first | with_reducible rfl | (rw [if_neg zb1])
       rotate_left
       ·simp only [Act.put, List.setIfInBounds_toArray, List.set_cons_zero, List.set_cons_succ, i64_w, i32_w]
        rfl
       refine pure_ (i := 15) (N := some 29) (v := ?_) (a' := ?_) #[true, true, true, true, true, true, true, true, true, true, true, true, true, true, true, true] rfl rfl (any_of HT_.out zb9) (fun _ _ _ h => h) (Or.inl ⟨by rfl, ?_⟩) ?_ ?_
       rotate_left
       ·intro w'
        go_simp
        first | with_reducible rfl | (rw [if_neg zb1])
       rotate_left
       ·simp only [Act.put, List.setIfInBounds_toArray, List.set_cons_zero, List.set_cons_succ, i64_w, i32_w]
        rfl
       refine done_ (done_of HT_.out zb9) ?_
       try go_wp2
       go_roundg k1
       case measure => have := HK1.out; omega
       case rel => exact ⟨(x5_1), (x6_1), (wrap64 (x7_1 + 1)), zb4, zb4, zb4, H', ⟨by have := HK1.out; omega⟩, ⟨by (with_reducible repeat (first | refine blk_drewN ?_ _ | refine blk_drew ?_ | refine blk_alloc ?_ _)); exact BK255.out⟩, ⟨by repeat (first | (with_reducible first | exact HB.out | apply below_alloc | apply pw_below_drewN | apply below_drew1 | refine below_set ?_ GE255.out) | exact HB.out)⟩⟩
     ·replace c7 := Bool.eq_false_iff.mpr c7
      subst c7
      replace H : (broadsheetref14_Of.l0 k1 l0 x5_1 x6_1 (wrap64 (x7_1 + 1)) a1_0 a1_1 l1_2) = some r := by rw [if_neg (show ¬ (false = true) by decide)] at H; exact H
      have H' := Aside0.mk H
      clear H
      try go_wp2
      have n0_ := Aside0.mk (blk_drew BK255.out)
      have n1_ := Aside0.mk (below_drew1 HB.out)
      clear BK255
      clear HB
      have BK255 := n0_
      have HB := n1_
      clear n0_ n1_
      have p256 : 0 ≤ (x7_1 : Int) := of_decide_eq_true zb3
      have q256 : x7_1 < (l0.length : Int) := of_decide_eq_true zb3
      obtain ⟨ad256, A256_2, c256_2, e256, hx256_0, hx256_1, hx256_2, hx256_3, hx256_4, hl256_2, hi256_2⟩ := at_T71 HR0.out x7_1 p256 q256
      have hw256_4 := hx256_4
      have hw256_3 := hx256_3
      have hw256_2 := hx256_2
      have hw256_1 := hx256_1
      have hw256_0 := hx256_0
      cases e256
      replace hx256_0 := (HB.out.cell (World.block_lt_of_cell? w _ hx256_0)).trans hx256_0
      replace hx256_1 := (HB.out.cell (World.block_lt_of_cell? w _ hx256_1)).trans hx256_1
      replace hx256_2 := (HB.out.cell (World.block_lt_of_cell? w _ hx256_2)).trans hx256_2
      replace hx256_3 := (HB.out.cell (World.block_lt_of_cell? w _ hx256_3)).trans hx256_3
      replace hx256_4 := (HB.out.cell (World.block_lt_of_cell? w _ hx256_4)).trans hx256_4
      have HR256_2 := Aside0.mk hi256_2
      have HC256_2 := Aside0.mk hl256_2
      clear hi256_2 hl256_2
      replace p256 := eq_true p256
      replace q256 := eq_true q256
      refine start_ (n := 16) (S := fun w' => w'.cell? ⟨gb255, 0, none⟩ = some (.string a1_0) ∧ w'.cell? ⟨gb255, 1, none⟩ = some (.string a1_1) ∧ w'.cell? ⟨gb255, 2, none⟩ = some (.slice A1_2 l1_2.length c1_2) ∧ w'.cell? (ad256.add ((x7_1).toNat * 5)) = some (.string ((rd_T71 l0 x7_1).f0.f0)) ∧ w'.cell? ⟨(ad256.add ((x7_1).toNat * 5)).block, (ad256.add ((x7_1).toNat * 5)).off + 1, none⟩ = some (.string ((rd_T71 l0 x7_1).f0.f1)) ∧ w'.cell? ⟨(ad256.add ((x7_1).toNat * 5)).block, (ad256.add ((x7_1).toNat * 5)).off + 2, none⟩ = some (.slice A256_2 ((rd_T71 l0 x7_1).f0.f2).length c256_2) ∧ w'.cell? ⟨(ad256.add ((x7_1).toNat * 5)).block, (ad256.add ((x7_1).toNat * 5)).off + 3, none⟩ = some (.float .f64 ((rd_T71 l0 x7_1).f1)) ∧ w'.cell? ⟨(ad256.add ((x7_1).toNat * 5)).block, (ad256.add ((x7_1).toNat * 5)).off + 4, none⟩ = some (.int .i64 ((rd_T71 l0 x7_1).f2))) (ds := []) #[false, false, false, false, false, false, false, false, false, false, false, false, false, false, false, false] zb9 rfl rfl ⟨(blk_cell BK255.out 0).trans rfl, (blk_cell BK255.out 1).trans rfl, (blk_cell BK255.out 2).trans rfl, ((HB.out.cell (World.block_lt_of_cell? w _ hw256_0)).trans hw256_0), ((HB.out.cell (World.block_lt_of_cell? w _ hw256_1)).trans hw256_1), ((HB.out.cell (World.block_lt_of_cell? w _ hw256_2)).trans hw256_2), ((HB.out.cell (World.block_lt_of_cell? w _ hw256_3)).trans hw256_3), ((HB.out.cell (World.block_lt_of_cell? w _ hw256_4)).trans hw256_4)⟩ (fun hHeld => ?_); refine with_tabW broadsheetref14_Of.tab5 broadsheetref14_Of.bits5 (fun HT_ HW_ => ?_)
      generalize wr.drew = w14 at BK255 HB HR256_2 hx256_0 hx256_1 hx256_2 hx256_3 hx256_4 hHeld ⊢
      refine pure_ (i := 0) (N := some 14) (v := ?_) (a' := ?_) #[true, false, false, false, false, false, false, false, false, false, false, false, false, false, false, false] rfl rfl (any_of HT_.out zb9) (fun _ _ _ h => h) (Or.inl ⟨by rfl, ?_⟩) ?_ ?_
      rotate_left
      ·intro w'
       go_simp
       first | with_reducible rfl | (rw [if_neg zb1])
      rotate_left
      ·simp only [Act.put, List.setIfInBounds_toArray, List.set_cons_zero, List.set_cons_succ, i64_w, i32_w]
       rfl
      refine pure_ (i := 1) (N := some 15) (v := ?_) (a' := ?_) #[true, true, false, false, false, false, false, false, false, false, false, false, false, false, false, false] rfl rfl (any_of HT_.out zb9) (fun _ _ _ h => h) (Or.inl ⟨by rfl, ?_⟩) ?_ ?_
      rotate_left
      ·intro w'
       go_simp
       first | with_reducible rfl | (rw [if_neg zb1])
      rotate_left
      ·simp only [Act.put, List.setIfInBounds_toArray, List.set_cons_zero, List.set_cons_succ, i64_w, i32_w]
       rfl
      refine pure_ (i := 2) (N := some 16) (v := ?_) (a' := ?_) #[true, true, true, false, false, false, false, false, false, false, false, false, false, false, false, false] rfl rfl (any_of HT_.out zb9) (fun _ _ _ h => h) (Or.inl ⟨by rfl, ?_⟩) ?_ ?_
      rotate_left
      ·intro w'
       go_simp
       first | with_reducible rfl | (rw [if_neg zb1])
      rotate_left
      ·simp only [Act.put, List.setIfInBounds_toArray, List.set_cons_zero, List.set_cons_succ, i64_w, i32_w]
       rfl
      refine pure_ (i := 3) (N := some 17) (v := ?_) (a' := ?_) #[true, true, true, true, false, false, false, false, false, false, false, false, false, false, false, false] rfl rfl (any_of HT_.out zb9) (fun _ _ _ h => h) (Or.inl ⟨by rfl, ?_⟩) ?_ ?_
      rotate_left
      ·intro w'
       go_simp
       first | with_reducible rfl | (rw [if_neg zb1])
      rotate_left
      ·simp only [Act.put, List.setIfInBounds_toArray, List.set_cons_zero, List.set_cons_succ, i64_w, i32_w]
       rfl
      refine take_ (i := 4) (N := some 18) (v := ?_) (a' := ?_) #[true, true, true, true, true, false, false, false, false, false, false, false, false, false, false, false] rfl rfl (take_ofW HT_.out HW_.out zb9) (fun _ _ _ h => h) (Or.inl ⟨by rfl, ?_⟩) hHeld ?_ ?_
      rotate_left
      ·rintro w' ⟨s0, s1, s2, s3, s4, s5, s6, s7⟩
       go_simp
       first | with_reducible rfl | (rw [if_neg zb1])
      rotate_left
      ·simp only [Act.put, List.setIfInBounds_toArray, List.set_cons_zero, List.set_cons_succ, i64_w, i32_w]
       rfl
      refine take_ (i := 5) (N := some 19) (v := ?_) (a' := ?_) #[true, true, true, true, true, true, false, false, false, false, false, false, false, false, false, false] rfl rfl (take_ofW HT_.out HW_.out zb9) (fun _ _ _ h => h) (Or.inl ⟨by rfl, ?_⟩) hHeld ?_ ?_
      rotate_left
      ·rintro w' ⟨s0, s1, s2, s3, s4, s5, s6, s7⟩
       go_simp
       first | with_reducible rfl | (rw [if_neg zb1])
      rotate_left
      ·simp only [Act.put, List.setIfInBounds_toArray, List.set_cons_zero, List.set_cons_succ, i64_w, i32_w]
       rfl
      refine one_ (i := 6) (N := some 20) #[true, true, true, true, true, true, true, false, false, false, false, false, false, false, false, false] rfl rfl (one_of HT_.out zb9) zb47 (fun K hK => ?_)
      refine goes_ Tryz.func36 zb9 rfl #[.agg #[.string ((rd_T71 l0 x7_1).f0.f0), .string ((rd_T71 l0 x7_1).f0.f1), .slice A256_2 ((rd_T71 l0 x7_1).f0.f2).length c256_2], .agg #[.string a1_0, .string a1_1, .slice A1_2 l1_2.length c1_2]] (by rfl) rfl rfl zb2 ?_
      with_reducible refine (broadsheetref13_Fits.calls k1 ((rd_T71 l0 x7_1).f0.f0) ((rd_T71 l0 x7_1).f0.f1) _ _ ((rd_T71 l0 x7_1).f0.f2) a1_0 a1_1 _ _ l1_2 false _ ?side1 ?side2 ?side3 ?side4 A6.out).mono ?_
      (case side1 => repeat (first | exact (Kd.C_below HR256_2.out HB.out) | (with_reducible refine Kd.C_alloc ?_ _) | (with_reducible refine Kd.C_drewN ?_ _) | (with_reducible refine Kd.C_drew ?_)))
      (case side2 => exact HC256_2.out)
      (case side3 => repeat (first | exact (Kd.C_below HR1_2.out HB.out) | (with_reducible refine Kd.C_alloc ?_ _) | (with_reducible refine Kd.C_drewN ?_ _) | (with_reducible refine Kd.C_drew ?_)))
      (case side4 => exact HC1_2.out)
      rintro e w15 ⟨rfl, hb⟩
      refine ⟨_, rfl, ?_⟩
      have n0_ := Aside0.mk (blk_below (g := gb255) (o := .cells #[.string a1_0, .string a1_1, .slice A1_2 l1_2.length c1_2] 40 (0, 0)) zb52 hb)
      have n1_ := Aside0.mk (below_step zb40 hb)
      clear BK255
      clear HB
      have BK255 := n0_
      have HB := n1_
      clear n0_ n1_
      (try clear hb)
      (try clear hb2)
      (try clear hk)
      (try clear hi)
      refine hK.out _ _ ⟨(blk_cell BK255.out 0).trans rfl, (blk_cell BK255.out 1).trans rfl, (blk_cell BK255.out 2).trans rfl, ((HB.out.cell (World.block_lt_of_cell? w _ hw256_0)).trans hw256_0), ((HB.out.cell (World.block_lt_of_cell? w _ hw256_1)).trans hw256_1), ((HB.out.cell (World.block_lt_of_cell? w _ hw256_2)).trans hw256_2), ((HB.out.cell (World.block_lt_of_cell? w _ hw256_3)).trans hw256_3), ((HB.out.cell (World.block_lt_of_cell? w _ hw256_4)).trans hw256_4)⟩ (fun hHeld => ?_)
      clear hK K
      refine norm_ (a' := ?_) ?_ ?_
      rotate_left
      ·show Act.put _ (some 20) _ = _
       simp only [Act.put, List.setIfInBounds_toArray, List.set_cons_zero, List.set_cons_succ, i64_w, i32_w]
       rfl
      refine pure_ (i := 7) (N := some 21) (v := ?_) (a' := ?_) #[true, true, true, true, true, true, true, true, false, false, false, false, false, false, false, false] rfl rfl (any_of HT_.out zb9) (fun _ _ _ h => h) (Or.inl ⟨by rfl, ?_⟩) ?_ ?_
      rotate_left
      ·intro w'
       go_simp
       first | with_reducible rfl | (rw [if_neg zb1])
      rotate_left
      ·simp only [Act.put, List.setIfInBounds_toArray, List.set_cons_zero, List.set_cons_succ, i64_w, i32_w]
       rfl
      refine pure_ (i := 8) (N := some 22) (v := undef) (a' := ?_) #[true, true, true, true, true, true, true, true, true, false, false, false, false, false, false, false] rfl rfl (any_of HT_.out zb9) (fun _ _ _ h => h) (Or.inr ⟨by rfl, rfl⟩) ?_ ?_
      rotate_left
      ·simp only [Act.put, List.setIfInBounds_toArray, List.set_cons_zero, List.set_cons_succ, i64_w, i32_w]
       rfl
      refine pure_ (i := 9) (N := some 23) (v := undef) (a' := ?_) #[true, true, true, true, true, true, true, true, true, true, false, false, false, false, false, false] rfl rfl (any_of HT_.out zb9) (fun _ _ _ h => h) (Or.inr ⟨by rfl, rfl⟩) ?_ ?_
      rotate_left
      ·simp only [Act.put, List.setIfInBounds_toArray, List.set_cons_zero, List.set_cons_succ, i64_w, i32_w]
       rfl
      refine pure_ (i := 10) (N := some 24) (v := undef) (a' := ?_) #[true, true, true, true, true, true, true, true, true, true, true, false, false, false, false, false] rfl rfl (any_of HT_.out zb9) (fun _ _ _ h => h) (Or.inr ⟨by rfl, rfl⟩) ?_ ?_
      rotate_left
      ·simp only [Act.put, List.setIfInBounds_toArray, List.set_cons_zero, List.set_cons_succ, i64_w, i32_w]
       rfl
      refine pure_ (i := 11) (N := some 25) (v := undef) (a' := ?_) #[true, true, true, true, true, true, true, true, true, true, true, true, false, false, false, false] rfl rfl (any_of HT_.out zb9) (fun _ _ _ h => h) (Or.inr ⟨by rfl, rfl⟩) ?_ ?_
      rotate_left
      ·simp only [Act.put, List.setIfInBounds_toArray, List.set_cons_zero, List.set_cons_succ, i64_w, i32_w]
       rfl
      refine pure_ (i := 12) (N := some 26) (v := undef) (a' := ?_) #[true, true, true, true, true, true, true, true, true, true, true, true, true, false, false, false] rfl rfl (any_of HT_.out zb9) (fun _ _ _ h => h) (Or.inr ⟨by rfl, rfl⟩) ?_ ?_
      rotate_left
      ·simp only [Act.put, List.setIfInBounds_toArray, List.set_cons_zero, List.set_cons_succ, i64_w, i32_w]
       rfl
      refine pure_ (i := 13) (N := some 27) (v := undef) (a' := ?_) #[true, true, true, true, true, true, true, true, true, true, true, true, true, true, false, false] rfl rfl (any_of HT_.out zb9) (fun _ _ _ h => h) (Or.inr ⟨by rfl, rfl⟩) ?_ ?_
      rotate_left
      ·simp only [Act.put, List.setIfInBounds_toArray, List.set_cons_zero, List.set_cons_succ, i64_w, i32_w]
       rfl
      refine pure_ (i := 14) (N := some 28) (v := undef) (a' := ?_) #[true, true, true, true, true, true, true, true, true, true, true, true, true, true, true, false] rfl rfl (any_of HT_.out zb9) (fun _ _ _ h => h) (Or.inr ⟨by rfl, rfl⟩) ?_ ?_
      rotate_left
      ·simp only [Act.put, List.setIfInBounds_toArray, List.set_cons_zero, List.set_cons_succ, i64_w, i32_w]
       rfl
      refine pure_ (i := 15) (N := some 29) (v := ?_) (a' := ?_) #[true, true, true, true, true, true, true, true, true, true, true, true, true, true, true, true] rfl rfl (any_of HT_.out zb9) (fun _ _ _ h => h) (Or.inl ⟨by rfl, ?_⟩) ?_ ?_
      rotate_left
      ·intro w'
       go_simp
       first | with_reducible rfl | (rw [if_neg zb1])
      rotate_left
      ·simp only [Act.put, List.setIfInBounds_toArray, List.set_cons_zero, List.set_cons_succ, i64_w, i32_w]
       rfl
      refine done_ (done_of HT_.out zb9) ?_
      try go_wp2
      go_roundg k1
      case measure => have := HK1.out; omega
      case rel => exact ⟨(x5_1), (x6_1), (wrap64 (x7_1 + 1)), zb4, zb4, zb4, H', ⟨by have := HK1.out; omega⟩, ⟨by (with_reducible repeat (first | refine blk_drewN ?_ _ | refine blk_drew ?_ | refine blk_alloc ?_ _)); exact BK255.out⟩, ⟨by repeat (first | (with_reducible first | exact HB.out | apply below_alloc | apply pw_below_drewN | apply below_drew1 | refine below_set ?_ GE255.out) | exact HB.out)⟩⟩
    ·rw [if_neg c5] at H
     exact absurd H zb45
   ·rw [if_neg c4] at H
    have c4b0 : decide (x7_1 < (l0.length : Int)) = false := decide_eq_false c4
    clear c4
    replace H := Option.bind_eq_some_iff.mp H
    obtain ⟨t261, A160, H⟩ := H
    replace H : (some t261) = some r := H
    have A16 := Aside0.mk A160
    clear A160
    obtain rfl := Option.some.inj H
    go_wp2_with (first | ((with_reducible refine gate_callee (f := 37) rfl ?_); refine goesL_ (some 41) rfl rfl Tryz.func37 zb9 rfl #[.float .f64 x5_1] rfl zb2 ?_; (with_reducible refine (broadsheetref14_Clamp.calls x5_1 t261 _ A16.out).mono ?_); rintro e w' ⟨rfl, ⟨nd, rfl⟩⟩; refine ⟨_, rfl, ?_⟩))
    go_ret
    exact ⟨zb6, zb40⟩
end Go.Proofs.YtghfbhobpodoeaaGreatDoor.P
/- Sim -/
namespace Go.Proofs.YtghfbhobpodoeaaGreatDoor.O
open Go Go.RowKit Go.Proofs.YtghfbhobpodoeaaGreatDoorW.PrintWords Go.Proofs.YtghfbhobpodoeaaGreatDoorW.PrintLast Go.Proofs.YtghfbhobpodoeaaGreatDoor.P
set_option linter.unusedVariables false
set_option linter.unusedSimpArgs false
def Alike (x y : S71) : Prop := x.f0 = y.f0 ∧ x.f2 = y.f2 ∧ WordIs x.f1 y.f1
theorem Sim.getD (d : S71) : ∀ {a b : List S71}, Sim a b → ∀ n, Alike (a.getD n d) (b.getD n d)
  | [], [], _, n => by simp; exact ⟨rfl, rfl, .inl rfl⟩
  | _ :: _, _ :: _, h, 0 => h.1
  | _ :: _, _ :: _, h, n + 1 => by
    have := Sim.getD d h.2 n
    simpa using this
  | [], _ :: _, h, _ => h.elim
  | _ :: _, [], h, _ => h.elim
theorem Sim.rd {a b : List S71} (h : Sim a b) (i : Int) : Alike (rd_T71 a i) (rd_T71 b i) := Sim.getD _ h _
theorem clamp_word {x y : Nat} (h : WordIs x y) : broadsheetref14_Clamp.f x = broadsheetref14_Clamp.f y := by
  rcases h with rfl | ⟨h1, h2⟩
  · rfl
  · unfold broadsheetref14_Clamp.f
    rw [Sp.order_nanL (x := x) h2, Sp.order_nanL (x := x) h2, Sp.order_nanL (x := y) h1, Sp.order_nanL (x := y) h1]
    have e1 : (((none : Option Ordering) == some .gt || (none : Option Ordering) == some .eq) = true) = False := by simp
    have e2 : ((none : Option Ordering) == some .gt) = false := rfl
    simp only [e1, e2, if_false, Bool.false_eq_true]
theorem of_l0_sim {a b : List S71} (h : Sim a b) (m0 m1 : ByteArray) (m2 : List S50) : ∀ (k : Nat) (x y : Nat) (n i : Int), WordIs x y →
    broadsheetref14_Of.l0 k a x n i m0 m1 m2 = broadsheetref14_Of.l0 k b y n i m0 m1 m2 := by
  intro k
  induction k with
  | zero => intro x y n i hw; rfl
  | succ k ih =>
    intro x y n i hw
    obtain ⟨e0, e2, e1⟩ := Sim.rd h i
    rw [broadsheetref14_Of.l0, broadsheetref14_Of.l0, Sim.len h, e0, e2]
    by_cases c : i < (b.length : Int)
    · rw [if_pos c, if_pos c]
      by_cases c0 : 0 ≤ i
      · rw [if_pos c0, if_pos c0]
        cases broadsheetref13_Fits.f k ((rd_T71 b i).f0.f0) ((rd_T71 b i).f0.f1) ((rd_T71 b i).f0.f2) m0 m1 m2 with
        | none => rfl
        | some t =>
          simp only [Option.bind_some]
          by_cases ct : t = true
          · rw [if_pos ct, if_pos ct]
            by_cases cn : (rd_T71 b i).f2 > n
            · rw [if_pos cn, if_pos cn]
              exact ih _ _ _ _ e1
            · rw [if_neg cn, if_neg cn]
              exact ih _ _ _ _ hw
          · rw [if_neg ct, if_neg ct]
            exact ih _ _ _ _ hw
      · rw [if_neg c0, if_neg c0]
    · rw [if_neg c, if_neg c, clamp_word hw]
theorem of_sim {a b : List S71} (h : Sim a b) (k : Nat) (m0 m1 : ByteArray) (m2 : List S50) : broadsheetref14_Of.f k a m0 m1 m2 = broadsheetref14_Of.f k b m0 m1 m2 :=
  of_l0_sim h m0 m1 m2 k 0 0 (-1) 0 (.inl rfl)
end Go.Proofs.YtghfbhobpodoeaaGreatDoor.O
/- Px31 -/
namespace Go.Proofs.YtghfbhobpodoeaaGreatDoor.P
open Go.Proofs.YtghfbhobpodoeaaGreatDoor.B
open Go.RowKit Go.Proofs.YtghfbhobpodoeaaGreatDoorW.PrintWords Go.Proofs.YtghfbhobpodoeaaGreatDoorW.PrintLast Go.Proofs.YtghfbhobpodoeaaGreatDoorW.PrintMore
attribute [local go_sem] run_store_float str_leq str_gtr str_geq max2_int min2_int max_two min_two max_three min_three max_four min_four
set_option linter.unusedVariables false
set_option linter.unusedSimpArgs false
open Go.Proofs.YtghfbhobpodoeaaGreatDoor.O
def broadsheetref14_Best.l0 : Nat → List (S40) → List (S71) → Int → Nat → Int → Option (Int × Nat)
  | 0, _, _, _, _, _ => none
  | k + 1, x1, x6, x7, x8, x9 => if x9 < (x1.length : Int) then (if 0 ≤ x9 then ((broadsheetref14_Of.f k x6 ((rd_T40 x1 x9).f0) ((rd_T40 x1 x9).f1) ((rd_T40 x1 x9).f2)).bind fun t266 => (if (FloatKind.f64.format.order t266 x8 == some .gt) = true then (broadsheetref14_Best.l0 k x1 x6 x9 t266 (wrap64 (x9 + 1))) else (broadsheetref14_Best.l0 k x1 x6 x7 x8 (wrap64 (x9 + 1))))) else (none)) else (some (x7, x8))
def broadsheetref14_Best.f (k : Nat) (a0 : ByteArray) (l1 : List (S40)) : Option (Int × Nat) := (ref14_Ranges.f k a0).bind fun t262 => (broadsheetref14_Best.l0 k l1 t262 (-1) 0 0)
theorem best_sim {a b : List (S71)} (h : Sim a b) (l : List (S40)) : ∀ (k : Nat) (x : Int) (y : Nat) (i : Int), broadsheetref14_Best.l0 k l a x y i = broadsheetref14_Best.l0 k l b x y i := by
  intro k
  induction k with
  | zero => intro x y i; rfl
  | succ k ih =>
    intro x y i
    rw [broadsheetref14_Best.l0, broadsheetref14_Best.l0, of_sim h]
    by_cases c : i < (l.length : Int)
    · rw [if_pos c, if_pos c]
      by_cases c0 : 0 ≤ i
      · rw [if_pos c0, if_pos c0]
        refine congrArg _ (funext fun t => ?_)
        rw [ih, ih]
      · rw [if_neg c0, if_neg c0]
    · rw [if_neg c, if_neg c]
set_option maxHeartbeats 8000000 in
set_option maxRecDepth 100000 in
theorem broadsheetref14_Best.calls (k : Nat) (a0 : ByteArray) (A1 : Option Addr) (c1 : Nat) (l1 : List (S40)) (r1 : Int) (r2 : Nat) (w : World) (hr1 : Kd.C k40 w A1 l1.length l1) (hc1 : l1.length ≤ c1) (h : broadsheetref14_Best.f k a0 l1 = some (r1, r2)) :
  Calls Tryz.prog 8 #[.string a0, .slice A1 l1.length c1] w fun e w' => e = .returned (.tuple #[.int .i64 r1, .float .f64 r2]) ∧ Below w.heap.size w w' := by
 have hu40 := Tryz.underlying40
 have HR1 := Aside0.mk hr1
 have HC1 := Aside0.mk hc1
 clear hr1 hc1
 have HB := Aside0.mk (Below.refl w.heap.size w)
 have H : ((ref14_Ranges.f k a0).bind fun t262 => (broadsheetref14_Best.l0 k l1 t262 (-1) 0 0)) = some (r1, r2) := h
 clear h
 replace H := Option.bind_eq_some_iff.mp H
 obtain ⟨t262, A30, H⟩ := H
 replace H : (broadsheetref14_Best.l0 k l1 t262 (-1) 0 0) = some (r1, r2) := H
 have A3 := Aside0.mk A30
 clear A30
 have H' := Aside0.mk H
 clear H
 go_enter Tryz.func8, Tryz.ntmps8
 go_wp2_with (first | ((with_reducible refine gate_callee (f := 20) rfl ?_); refine goesL_ (some 12) rfl rfl Tryz.func20 zb9 rfl #[.string a0] rfl zb2 ?_; (with_reducible refine (ref14_Ranges.calls k a0 t262 _ A3.out).mono ?_); rintro e w4 ⟨v263, tSim, rfl, hsim, ho0, hb⟩; replace H' := Aside0.mk ((best_sim hsim _ _ _ _ _).symm.trans H'.out); refine ⟨_, rfl, ?_⟩; have n0_ := Aside0.mk (Kd.S_lower ho0 (below_size zb0)); have n1_ := Aside0.mk (below_step zb0 hb); clear HB; have HO264 := n0_; have HB := n1_; clear n0_ n1_; (try clear hb); (try clear hb2); (try clear hk); (try clear hi); (try clear ho0)))
 first | go_loopg [7, 8, 9] k (fun kq v7 v8 v9 w' => ∃ (x7_1 : Int) (x8_1 : Nat) (x9_1 : Int), v7 = .int .i64 x7_1 ∧ v8 = .float .f64 x8_1 ∧ v9 = .int .i64 x9_1 ∧ Aside0 (broadsheetref14_Best.l0 kq l1 tSim x7_1 x8_1 x9_1 = some (r1, r2)) ∧ Aside0 (kq ≤ k) ∧ Aside0 (Kd.S k71 71 w' w.heap.size (fun _ => True) v263 tSim) ∧ Aside0 (Below w.heap.size w w')) | (go_simp; go_loopg [7, 8, 9] k (fun kq v7 v8 v9 w' => ∃ (x7_1 : Int) (x8_1 : Nat) (x9_1 : Int), v7 = .int .i64 x7_1 ∧ v8 = .float .f64 x8_1 ∧ v9 = .int .i64 x9_1 ∧ Aside0 (broadsheetref14_Best.l0 kq l1 tSim x7_1 x8_1 x9_1 = some (r1, r2)) ∧ Aside0 (kq ≤ k) ∧ Aside0 (Kd.S k71 71 w' w.heap.size (fun _ => True) v263 tSim) ∧ Aside0 (Below w.heap.size w w')))
 case atStart => exact ⟨((-1)), (0), (0), zb4, zb4, zb4, H', ⟨Nat.le_refl _⟩, ⟨by (with_reducible repeat (first | apply Kd.S_alloc | apply Kd.S_drewN | apply Kd.S_drew)); exact HO264.out⟩, ⟨by repeat (first | (with_reducible first | exact HB.out | apply below_alloc | apply pw_below_drewN | apply below_drew1) | exact HB.out)⟩⟩
 case round =>
  clear H'
  try clear c1
  try clear c2
  try clear p2
  obtain ⟨x7_1, x8_1, x9_1, rfl, rfl, rfl, HA, HK1, HO_6, HB⟩ := hrel
  cases gk with
  | zero => exact absurd HA.out (by simp [broadsheetref14_Best.l0])
  | succ k1 =>
   have H := HA.out
   clear HA
   simp only [broadsheetref14_Best.l0] at H
   by_cases c5 : x9_1 < (l1.length : Int)
   ·rw [if_pos c5] at H
    have c5b0 : decide (x9_1 < (l1.length : Int)) = true := decide_eq_true c5
    clear c5
    by_cases c6 : 0 ≤ x9_1
    ·rw [if_pos c6] at H
     have c6b0 : decide (0 ≤ x9_1) = true := decide_eq_true c6
     clear c6
     replace H := Option.bind_eq_some_iff.mp H
     obtain ⟨t266, A70, H⟩ := H
     replace H : (if (FloatKind.f64.format.order t266 x8_1 == some .gt) = true then (broadsheetref14_Best.l0 k1 l1 tSim x9_1 t266 (wrap64 (x9_1 + 1))) else (broadsheetref14_Best.l0 k1 l1 tSim x7_1 x8_1 (wrap64 (x9_1 + 1)))) = some (r1, r2) := H
     have A7 := Aside0.mk A70
     clear A70
     by_cases c8 : (FloatKind.f64.format.order t266 x8_1 == some .gt) = true
     ·rw [if_pos c8] at H
      have c8b0 : (FloatKind.f64.format.order t266 x8_1 == some .gt) = true := c8
      (try (have c8b1 : decide (FloatKind.f64.format.order t266 x8_1 = some .gt) = true := by simpa using c8))
      (try (have c8b2 : (FloatKind.f64.format.order t266 x8_1 == some .gt) = true := by simpa using c8))
      clear c8
      have H' := Aside0.mk H
      clear H
      have p265 : 0 ≤ (x9_1 : Int) := of_decide_eq_true zb3
      have q265 : x9_1 < (l1.length : Int) := of_decide_eq_true zb3
      obtain ⟨ad265, A265_2, c265_2, e265, hx265_0, hx265_1, hx265_2, hl265_2, hi265_2⟩ := at_T40 HR1.out x9_1 p265 q265
      cases e265
      replace hx265_0 := (HB.out.cell (World.block_lt_of_cell? w _ hx265_0)).trans hx265_0
      replace hx265_1 := (HB.out.cell (World.block_lt_of_cell? w _ hx265_1)).trans hx265_1
      replace hx265_2 := (HB.out.cell (World.block_lt_of_cell? w _ hx265_2)).trans hx265_2
      have HR265_2 := Aside0.mk hi265_2
      have HC265_2 := Aside0.mk hl265_2
      clear hi265_2 hl265_2
      replace p265 := eq_true p265
      replace q265 := eq_true q265
      obtain ⟨Ao9, co9, eo9⟩ := Kd.S_slice HO_6.out
      subst eo9
      go_wp2_with (first | ((with_reducible refine gate_callee (f := 21) rfl ?_); refine goesL_ (some 24) rfl rfl Tryz.func21 zb9 rfl #[.slice Ao9 tSim.length co9, .agg #[.string ((rd_T40 l1 x9_1).f0), .string ((rd_T40 l1 x9_1).f1), .slice A265_2 ((rd_T40 l1 x9_1).f2).length c265_2]] rfl zb2 ?_; (with_reducible refine (broadsheetref14_Of.calls k1 _ _ tSim ((rd_T40 l1 x9_1).f0) ((rd_T40 l1 x9_1).f1) _ _ ((rd_T40 l1 x9_1).f2) t266 _ ?side1 ?side2 ?side3 ?side4 A7.out).mono ?_); (case side1 => repeat (first | exact (Kd.S_reads' HO_6.out).2.2 | (with_reducible refine Kd.C_alloc ?_ _) | (with_reducible refine Kd.C_drewN ?_ _) | (with_reducible refine Kd.C_drew ?_))); (case side2 => exact (Kd.S_reads' HO_6.out).2.1); (case side3 => repeat (first | exact (Kd.C_below HR265_2.out HB.out) | (with_reducible refine Kd.C_alloc ?_ _) | (with_reducible refine Kd.C_drewN ?_ _) | (with_reducible refine Kd.C_drew ?_))); (case side4 => exact HC265_2.out); rintro e w10 ⟨rfl, hb⟩; refine ⟨_, rfl, ?_⟩; have n0_ := Aside0.mk (Kd.S_below zb39 hb); have n1_ := Aside0.mk (below_step zb0 hb); clear HO_6; clear HB; have HO_6 := n0_; have HB := n1_; clear n0_ n1_; (try clear hb); (try clear hb2); (try clear hk); (try clear hi)))
      go_roundg k1
      case measure => have := HK1.out; omega
      case rel => exact ⟨(x9_1), (t266), (wrap64 (x9_1 + 1)), zb4, zb4, zb4, H', ⟨by have := HK1.out; omega⟩, ⟨by (with_reducible repeat (first | apply Kd.S_alloc | apply Kd.S_drewN | apply Kd.S_drew)); exact HO_6.out⟩, ⟨by repeat (first | (with_reducible first | exact HB.out | apply below_alloc | apply pw_below_drewN | apply below_drew1) | exact HB.out)⟩⟩
     ·rw [if_neg c8] at H
      have c8b0 : (FloatKind.f64.format.order t266 x8_1 == some .gt) = false := by simpa using c8
      (try (have c8b1 : decide (FloatKind.f64.format.order t266 x8_1 = some .gt) = false := by simpa using c8))
      (try (have c8b2 : (FloatKind.f64.format.order t266 x8_1 == some .gt) = false := by simpa using c8))
      (try (have c8b3 : ¬ (FloatKind.f64.format.order t266 x8_1 = some .gt) := by simpa using c8))
      clear c8
      have H' := Aside0.mk H
      clear H
      have p265 : 0 ≤ (x9_1 : Int) := of_decide_eq_true zb3
      have q265 : x9_1 < (l1.length : Int) := of_decide_eq_true zb3
      obtain ⟨ad265, A265_2, c265_2, e265, hx265_0, hx265_1, hx265_2, hl265_2, hi265_2⟩ := at_T40 HR1.out x9_1 p265 q265
      cases e265
      replace hx265_0 := (HB.out.cell (World.block_lt_of_cell? w _ hx265_0)).trans hx265_0
      replace hx265_1 := (HB.out.cell (World.block_lt_of_cell? w _ hx265_1)).trans hx265_1
      replace hx265_2 := (HB.out.cell (World.block_lt_of_cell? w _ hx265_2)).trans hx265_2
      have HR265_2 := Aside0.mk hi265_2
      have HC265_2 := Aside0.mk hl265_2
      clear hi265_2 hl265_2
      replace p265 := eq_true p265
      replace q265 := eq_true q265
      obtain ⟨Ao11, co11, eo11⟩ := Kd.S_slice HO_6.out
      subst eo11
      go_wp2_with (first | ((with_reducible refine gate_callee (f := 21) rfl ?_); refine goesL_ (some 24) rfl rfl Tryz.func21 zb9 rfl #[.slice Ao11 tSim.length co11, .agg #[.string ((rd_T40 l1 x9_1).f0), .string ((rd_T40 l1 x9_1).f1), .slice A265_2 ((rd_T40 l1 x9_1).f2).length c265_2]] rfl zb2 ?_; (with_reducible refine (broadsheetref14_Of.calls k1 _ _ tSim ((rd_T40 l1 x9_1).f0) ((rd_T40 l1 x9_1).f1) _ _ ((rd_T40 l1 x9_1).f2) t266 _ ?side1 ?side2 ?side3 ?side4 A7.out).mono ?_); (case side1 => repeat (first | exact (Kd.S_reads' HO_6.out).2.2 | (with_reducible refine Kd.C_alloc ?_ _) | (with_reducible refine Kd.C_drewN ?_ _) | (with_reducible refine Kd.C_drew ?_))); (case side2 => exact (Kd.S_reads' HO_6.out).2.1); (case side3 => repeat (first | exact (Kd.C_below HR265_2.out HB.out) | (with_reducible refine Kd.C_alloc ?_ _) | (with_reducible refine Kd.C_drewN ?_ _) | (with_reducible refine Kd.C_drew ?_))); (case side4 => exact HC265_2.out); rintro e w12 ⟨rfl, hb⟩; refine ⟨_, rfl, ?_⟩; have n0_ := Aside0.mk (Kd.S_below zb39 hb); have n1_ := Aside0.mk (below_step zb0 hb); clear HO_6; clear HB; have HO_6 := n0_; have HB := n1_; clear n0_ n1_; (try clear hb); (try clear hb2); (try clear hk); (try clear hi)))
      go_roundg k1
      case measure => have := HK1.out; omega
      case rel => exact ⟨(x7_1), (x8_1), (wrap64 (x9_1 + 1)), zb4, zb4, zb4, H', ⟨by have := HK1.out; omega⟩, ⟨by (with_reducible repeat (first | apply Kd.S_alloc | apply Kd.S_drewN | apply Kd.S_drew)); exact HO_6.out⟩, ⟨by repeat (first | (with_reducible first | exact HB.out | apply below_alloc | apply pw_below_drewN | apply below_drew1) | exact HB.out)⟩⟩
    ·rw [if_neg c6] at H
     exact absurd H zb45
   ·rw [if_neg c5] at H
    have c5b0 : decide (x9_1 < (l1.length : Int)) = false := decide_eq_false c5
    clear c5
    simp only [Option.some.injEq, Prod.mk.injEq] at H
    obtain ⟨rfl, rfl⟩ := H
    go_wp2
    go_ret2
    exact ⟨zb6, zb0⟩
def broadsheetlaw14_same.f (a0 : Nat) (a1 : Nat) : Option (Bool) := if (FloatKind.f64.format.order a0 a0 != some .eq) = true then (if (FloatKind.f64.format.order a1 a1 != some .eq) = true then (some true) else (if (FloatKind.f64.format.order a0 a1 == some .eq) = true then ((math_Signbit.f a0).bind fun t267 => ((math_Signbit.f a1).bind fun t268 => (some (t267 == t268)))) else (some false))) else (if (FloatKind.f64.format.order a0 a1 == some .eq) = true then ((math_Signbit.f a0).bind fun t269 => ((math_Signbit.f a1).bind fun t270 => (some (t269 == t270)))) else (some false))
set_option maxHeartbeats 8000000 in
set_option maxRecDepth 100000 in
theorem broadsheetlaw14_same.calls (a0 : Nat) (a1 : Nat) (r : Bool) (w : World) (h : broadsheetlaw14_same.f a0 a1 = some r) :
  Calls Tryz.prog 10 #[.float .f64 a0, .float .f64 a1] w fun e w' => e = .returned (.bool r) ∧ Drawn0 w w' := by
 have H : (if (FloatKind.f64.format.order a0 a0 != some .eq) = true then (if (FloatKind.f64.format.order a1 a1 != some .eq) = true then (some true) else (if (FloatKind.f64.format.order a0 a1 == some .eq) = true then ((math_Signbit.f a0).bind fun t267 => ((math_Signbit.f a1).bind fun t268 => (some (t267 == t268)))) else (some false))) else (if (FloatKind.f64.format.order a0 a1 == some .eq) = true then ((math_Signbit.f a0).bind fun t269 => ((math_Signbit.f a1).bind fun t270 => (some (t269 == t270)))) else (some false))) = some r := h
 clear h
 by_cases c3 : (FloatKind.f64.format.order a0 a0 != some .eq) = true
 ·rw [if_pos c3] at H
  have c3b0 : (FloatKind.f64.format.order a0 a0 != some .eq) = true := c3
  (try (have c3b1 : decide (FloatKind.f64.format.order a0 a0 = some .eq) = false := by simpa using c3))
  (try (have c3b2 : (FloatKind.f64.format.order a0 a0 == some .eq) = false := by simpa using c3))
  (try (have c3b3 : ¬ (FloatKind.f64.format.order a0 a0 = some .eq) := by simpa using c3))
  clear c3
  by_cases c4 : (FloatKind.f64.format.order a1 a1 != some .eq) = true
  ·rw [if_pos c4] at H
   have c4b0 : (FloatKind.f64.format.order a1 a1 != some .eq) = true := c4
   (try (have c4b1 : decide (FloatKind.f64.format.order a1 a1 = some .eq) = false := by simpa using c4))
   (try (have c4b2 : (FloatKind.f64.format.order a1 a1 == some .eq) = false := by simpa using c4))
   (try (have c4b3 : ¬ (FloatKind.f64.format.order a1 a1 = some .eq) := by simpa using c4))
   clear c4
   obtain rfl := Option.some.inj H
   go_enter Tryz.func10, Tryz.ntmps10
   go_wp2
   go_ret
   exact ⟨by first | rfl | (simp; done) | (simp [*]; done), by repeat (first | exact Drawn0.refl _ | apply Drawn0.step)⟩
  ·rw [if_neg c4] at H
   have c4b0 : (FloatKind.f64.format.order a1 a1 != some .eq) = false := by simpa using c4
   (try (have c4b1 : decide (FloatKind.f64.format.order a1 a1 = some .eq) = true := by simpa using c4))
   (try (have c4b2 : (FloatKind.f64.format.order a1 a1 == some .eq) = true := by simpa using c4))
   clear c4
   by_cases c5 : (FloatKind.f64.format.order a0 a1 == some .eq) = true
   ·rw [if_pos c5] at H
    have c5b0 : (FloatKind.f64.format.order a0 a1 == some .eq) = true := c5
    (try (have c5b1 : decide (FloatKind.f64.format.order a0 a1 = some .eq) = true := by simpa using c5))
    (try (have c5b2 : (FloatKind.f64.format.order a0 a1 == some .eq) = true := by simpa using c5))
    clear c5
    replace H := Option.bind_eq_some_iff.mp H
    obtain ⟨t267, A60, H⟩ := H
    replace H : ((math_Signbit.f a1).bind fun t268 => (some (t267 == t268))) = some r := H
    have A6 := Aside0.mk A60
    clear A60
    replace H := Option.bind_eq_some_iff.mp H
    obtain ⟨t268, A70, H⟩ := H
    replace H : (some (t267 == t268)) = some r := H
    have A7 := Aside0.mk A70
    clear A70
    obtain rfl := Option.some.inj H
    go_enter Tryz.func10, Tryz.ntmps10
    go_wp2_with (first | (go_at_call 22; (with_reducible refine (math_Signbit.calls a0 t267 _ A6.out).mono ?_); rintro e w' ⟨rfl, ⟨nd, rfl⟩⟩) | (go_at_call 22; (with_reducible refine (math_Signbit.calls a1 t268 _ A7.out).mono ?_); rintro e w' ⟨rfl, ⟨nd, rfl⟩⟩))
    go_ret
    exact ⟨by first | rfl | (simp; done) | (simp [*]; done), by repeat (first | exact Drawn0.refl _ | apply Drawn0.step)⟩
   ·rw [if_neg c5] at H
    have c5b0 : (FloatKind.f64.format.order a0 a1 == some .eq) = false := by simpa using c5
    (try (have c5b1 : decide (FloatKind.f64.format.order a0 a1 = some .eq) = false := by simpa using c5))
    (try (have c5b2 : (FloatKind.f64.format.order a0 a1 == some .eq) = false := by simpa using c5))
    (try (have c5b3 : ¬ (FloatKind.f64.format.order a0 a1 = some .eq) := by simpa using c5))
    clear c5
    obtain rfl := Option.some.inj H
    go_enter Tryz.func10, Tryz.ntmps10
    go_wp2
    go_ret
    exact ⟨by first | rfl | (simp; done) | (simp [*]; done), by repeat (first | exact Drawn0.refl _ | apply Drawn0.step)⟩
 ·rw [if_neg c3] at H
  have c3b0 : (FloatKind.f64.format.order a0 a0 != some .eq) = false := by simpa using c3
  (try (have c3b1 : decide (FloatKind.f64.format.order a0 a0 = some .eq) = true := by simpa using c3))
  (try (have c3b2 : (FloatKind.f64.format.order a0 a0 == some .eq) = true := by simpa using c3))
  clear c3
  by_cases c8 : (FloatKind.f64.format.order a0 a1 == some .eq) = true
  ·rw [if_pos c8] at H
   have c8b0 : (FloatKind.f64.format.order a0 a1 == some .eq) = true := c8
   (try (have c8b1 : decide (FloatKind.f64.format.order a0 a1 = some .eq) = true := by simpa using c8))
   (try (have c8b2 : (FloatKind.f64.format.order a0 a1 == some .eq) = true := by simpa using c8))
   clear c8
   replace H := Option.bind_eq_some_iff.mp H
   obtain ⟨t269, A90, H⟩ := H
   replace H : ((math_Signbit.f a1).bind fun t270 => (some (t269 == t270))) = some r := H
   have A9 := Aside0.mk A90
   clear A90
   replace H := Option.bind_eq_some_iff.mp H
   obtain ⟨t270, A100, H⟩ := H
   replace H : (some (t269 == t270)) = some r := H
   have A10 := Aside0.mk A100
   clear A100
   obtain rfl := Option.some.inj H
   go_enter Tryz.func10, Tryz.ntmps10
   go_wp2_with (first | (go_at_call 22; (with_reducible refine (math_Signbit.calls a0 t269 _ A9.out).mono ?_); rintro e w' ⟨rfl, ⟨nd, rfl⟩⟩) | (go_at_call 22; (with_reducible refine (math_Signbit.calls a1 t270 _ A10.out).mono ?_); rintro e w' ⟨rfl, ⟨nd, rfl⟩⟩))
   go_ret
   exact ⟨by first | rfl | (simp; done) | (simp [*]; done), by repeat (first | exact Drawn0.refl _ | apply Drawn0.step)⟩
  ·rw [if_neg c8] at H
   have c8b0 : (FloatKind.f64.format.order a0 a1 == some .eq) = false := by simpa using c8
   (try (have c8b1 : decide (FloatKind.f64.format.order a0 a1 = some .eq) = false := by simpa using c8))
   (try (have c8b2 : (FloatKind.f64.format.order a0 a1 == some .eq) = false := by simpa using c8))
   (try (have c8b3 : ¬ (FloatKind.f64.format.order a0 a1 = some .eq) := by simpa using c8))
   clear c8
   obtain rfl := Option.some.inj H
   go_enter Tryz.func10, Tryz.ntmps10
   go_wp2
   go_ret
   exact ⟨by first | rfl | (simp; done) | (simp [*]; done), by repeat (first | exact Drawn0.refl _ | apply Drawn0.step)⟩
end Go.Proofs.YtghfbhobpodoeaaGreatDoor.P
/- Px35 -/
namespace Go.Proofs.YtghfbhobpodoeaaGreatDoor.P
open Go.Proofs.YtghfbhobpodoeaaGreatDoor.B
open Go.RowKit Go.Proofs.YtghfbhobpodoeaaGreatDoorW.PrintWords Go.Proofs.YtghfbhobpodoeaaGreatDoorW.PrintLast Go.Proofs.YtghfbhobpodoeaaGreatDoorW.PrintMore
attribute [local go_sem] run_store_float str_leq str_gtr str_geq max2_int min2_int max_two min_two max_three min_three max_four min_four
set_option linter.unusedVariables false
set_option linter.unusedSimpArgs false
end Go.Proofs.YtghfbhobpodoeaaGreatDoor.P
/- SpQi -/
namespace Go.Proofs.YtghfbhobpodoeaaGreatDoor.Sp
open Go Go.RowKit Go.Proofs.YtghfbhobpodoeaaGreatDoorW.PrintWords Go.Proofs.YtghfbhobpodoeaaGreatDoorW.PrintLast Go.Proofs.YtghfbhobpodoeaaGreatDoor.O Go.Proofs.YtghfbhobpodoeaaGreatDoor.P
set_option linter.unusedVariables false
set_option linter.unusedSimpArgs false
def sgn (a : Nat) : Bool := decide (wrap64 (a : Int) < 0)
theorem key_pos {a : Nat} (h : 0 < keyI a) : negB a = false := by
  unfold keyI at h
  cases hn : negB a
  · rfl
  · rw [hn] at h; simp at h; omega
theorem key_0 : keyI 0 = 0 := by decide
theorem nan_0 : nanB 0 = false := by decide
theorem nan_1 : nanB one64 = false := by decide
theorem key_1 : keyI one64 = 4607182418800017408 := by decide
theorem sgnF (a : Nat) : math_Signbit.f a = some (sgn a) := rfl
theorem sameW_ (a b : Nat) : sameW a b = ((nanB a && nanB b) || (!nanB a && !nanB b && decide (keyI a = keyI b) && (sgn a == sgn b))) := rfl
theorem same_bool (m n d s u : Bool) : (if m = true then (if n = true then some true else (if (!m && !n && d) = true then ((some s).bind fun t206 => ((some u).bind fun t207 => (some (t206 == t207)))) else (some false))) else (if (!m && !n && d) = true then ((some s).bind fun t206 => ((some u).bind fun t207 => (some (t206 == t207)))) else (some false))) = some ((m && n) || (!m && !n && d && (s == u))) := by
  cases m <;> cases n <;> cases d <;> rfl
theorem sameF_ (a b : Nat) : broadsheetlaw14_same.f a b = some (sameW a b) := by
  rw [broadsheetlaw14_same.f, nan_eq, nan_eq, eq_key, sgnF, sgnF, sameW_]
  exact same_bool _ _ _ _ _
theorem clamp_is (a : Nat) : clampW a = if nanB a = true then 0 else if keyI a ≤ 0 then 0 else if keyI a < 4607182418800017408 then a else one64 := by
  unfold clampW
  rw [gt_key, nan_0, key_0]
  cases hn : nanB a with
  | true => simp
  | false =>
    simp only [Bool.not_false, Bool.true_and, decide_eq_true_eq, Bool.false_eq_true, if_false]
    by_cases h : 0 < keyI a
    · rw [if_pos h, if_neg (show ¬ keyI a ≤ 0 by omega), order_key hn nan_1, key_1, cmp_int]
      by_cases h1 : keyI a < 4607182418800017408
      · rw [if_pos h1, if_pos h1]
      · rw [if_neg h1, if_neg h1]
        by_cases h2 : keyI a = 4607182418800017408
        · rw [if_pos h2]
          have h3 : (FloatKind.f64.decode a).neg = false := by
            have h4 := key_pos h
            have h5 : rungN a ≤ infR := by simpa [nanB] using hn
            show (Ieee.double.read a).neg = false
            rcases Nat.lt_or_eq_of_le h5 with h6 | h6
            · obtain ⟨m, i, e, _⟩ := read_num h6
              rw [e, h4]; rfl
            · rw [read_inf h6, h4]; rfl
          simp only
          rw [h3]
          rfl
        · rw [if_neg h2]
    · rw [if_neg h, if_pos (show keyI a ≤ 0 by omega)]
theorem same_self (x : Nat) : sameW x x = true := by
  rw [sameW_, decide_eq_true (rfl : keyI x = keyI x), beq_self_eq_true]
  cases nanB x <;> rfl
theorem rclampF (a : Nat) : broadsheetref14_Clamp.f a = some (clampW a) := by
  have e : (4607182418800017408 : Nat) = one64 := rfl
  rw [broadsheetref14_Clamp.f, e, clamp_is, gt_key, gt_key, eq_key, nan_0, nan_1, key_0, key_1]
  cases nanB a with
  | true => rfl
  | false =>
    rw [if_neg Bool.false_ne_true]
    by_cases h1 : keyI a ≤ 0
    · rw [if_pos h1, decide_eq_false (show ¬ 4607182418800017408 < keyI a by omega), decide_eq_false (show ¬ keyI a = 4607182418800017408 by omega), decide_eq_false (show ¬ 0 < keyI a by omega)]
      rfl
    · rw [if_neg h1, decide_eq_true (show 0 < keyI a by omega)]
      by_cases h2 : keyI a < 4607182418800017408
      · rw [if_pos h2, decide_eq_false (show ¬ 4607182418800017408 < keyI a by omega), decide_eq_false (show ¬ keyI a = 4607182418800017408 by omega)]
        rfl
      · rw [if_neg h2]
        by_cases h3 : keyI a = 4607182418800017408
        · rw [decide_eq_true h3, decide_eq_false (show ¬ 4607182418800017408 < keyI a by omega)]; rfl
        · rw [decide_eq_true (show 4607182418800017408 < keyI a by omega)]; rfl
theorem rdR (l : List Rng) (i : Nat) (r : Rng) (h : l[i]? = some r) : rd_T71 (l.map rrgB) (i : Int) = rrgB r := by
  unfold rd_T71
  rw [Int.toNat_natCast, List.getD_eq_getElem?_getD, List.getElem?_map, h]
  rfl
theorem rwgt_l0 (l : List Rng) (m : Med) (hl : l.length ≤ 1000001) (hs : ∀ r ∈ l, MSm 1000000 r.m) (hm : MSm 1000000 m) : ∀ (d k i : Nat) (w : Nat) (n : Int), i + d = l.length → d + 4000000 ≤ k →
    broadsheetref14_Of.l0 k (l.map rrgB) w n (i : Int) (mk m.t) (mk m.s) (pairsB m.ps) = some (clampW (pickL m (l.drop i) w n)) := by
  intro d
  induction d with
  | zero =>
    intro k i w n hi hk
    obtain ⟨k, rfl⟩ : ∃ m, k = m + 1 := ⟨k - 1, by omega⟩
    rw [broadsheetref14_Of.l0, if_neg (by rw [List.length_map]; omega), List.drop_eq_nil_of_le (by omega), rclampF]
    rfl
  | succ d ih =>
    intro k i w n hi hk
    obtain ⟨k, rfl⟩ : ∃ m, k = m + 1 := ⟨k - 1, by omega⟩
    have hlt : i < l.length := by omega
    have hr := hs l[i] (List.getElem_mem hlt)
    rw [broadsheetref14_Of.l0, if_pos (by rw [List.length_map]; omega), if_pos (by omega), rdR l i l[i] (List.getElem?_eq_getElem hlt), List.drop_eq_getElem_cons hlt]
    generalize l[i] = r at *
    show (broadsheetref13_Fits.f k (mk r.m.t) (mk r.m.s) (pairsB r.m.ps) (mk m.t) (mk m.s) (pairsB m.ps)).bind _ = _
    rw [rfitsF r.m m k hr hm (by omega), Option.bind_some, w1_ i (by omega), pickL]
    by_cases h : fitsL r.m m = true
    · rw [if_pos h]
      by_cases hn : r.n > n
      · rw [if_pos (show (rrgB r).f2 > n from hn), if_pos ⟨h, hn⟩, ih k (i + 1) _ _ (by omega) (by omega)]
        rfl
      · rw [if_neg (show ¬ (rrgB r).f2 > n from hn), if_neg (show ¬ (fitsL r.m m = true ∧ r.n > n) from fun x => hn x.2), ih k (i + 1) _ _ (by omega) (by omega)]
    · rw [if_neg h, if_neg (fun x => h x.1), ih k (i + 1) _ _ (by omega) (by omega)]
theorem rweightF (l : List Rng) (m : Med) (k : Nat) (hl : l.length ≤ 1000001) (hs : ∀ r ∈ l, MSm 1000000 r.m) (hm : MSm 1000000 m) (hk : 6000000 ≤ k) : broadsheetref14_Of.f k (l.map rrgB) (mk m.t) (mk m.s) (pairsB m.ps) = some (weightL l m) := by
  unfold broadsheetref14_Of.f weightL
  have := rwgt_l0 l m hl hs hm l.length k 0 0 (-1) (by omega) (by omega)
  simpa using this
theorem rbest_l0 (l : List Rng) (h : List Med) (hl : l.length ≤ 1000001) (hs : ∀ r ∈ l, MSm 1000000 r.m) (hh : ∀ m ∈ h, MSm 1000000 m) (hhl : h.length ≤ 1000000) : ∀ (d k i : Nat) (a : Int) (w : Nat), i + d = h.length → d + 6000000 ≤ k →
    broadsheetref14_Best.l0 k (h.map medB) (l.map rrgB) a w (i : Int) = some (bestL l (h.drop i) i a w) := by
  intro d
  induction d with
  | zero =>
    intro k i a w hi hk
    obtain ⟨k, rfl⟩ : ∃ m, k = m + 1 := ⟨k - 1, by omega⟩
    rw [broadsheetref14_Best.l0, if_neg (by rw [List.length_map]; omega), List.drop_eq_nil_of_le (by omega)]
    rfl
  | succ d ih =>
    intro k i a w hi hk
    obtain ⟨k, rfl⟩ : ∃ m, k = m + 1 := ⟨k - 1, by omega⟩
    have hlt : i < h.length := by omega
    have hm := hh h[i] (List.getElem_mem hlt)
    rw [broadsheetref14_Best.l0, if_pos (by rw [List.length_map]; omega), if_pos (by omega), rdm h i h[i] (List.getElem?_eq_getElem hlt), List.drop_eq_getElem_cons hlt]
    generalize h[i] = m at *
    show (broadsheetref14_Of.f k (l.map rrgB) (mk m.t) (mk m.s) (pairsB m.ps)).bind _ = _
    rw [rweightF l m k hl hs hm (by omega), Option.bind_some, w1_ i (by omega), bestL]
    split
    · rw [ih k (i + 1) _ _ (by omega) (by omega)]
    · rw [ih k (i + 1) _ _ (by omega) (by omega)]
theorem rbestF (s : L) (h : List Med) (k : Nat) (hs : s.length ≤ 100000) (hh : ∀ m ∈ h, MSm 1000000 m) (hhl : h.length ≤ 1000000) (hk : 10000000 ≤ k) : broadsheetref14_Best.f k (mk s) (h.map medB) = some (best s h) := by
  unfold broadsheetref14_Best.f
  rw [rrangesF s k hs (by omega), Option.bind_some]
  obtain ⟨a, b⟩ := ranges_sm s
  have hb : ∀ r ∈ rangesL s, MSm 1000000 r.m := fun r hr => by
    obtain ⟨c1, c2, c3, c4⟩ := b r hr
    exact ⟨by omega, by omega, by omega, fun p hp => by have := c4 p hp; omega⟩
  have := rbest_l0 (rangesL s) h (by omega) hb hh hhl h.length k 0 (-1) 0 (by omega) (by omega)
  simpa [best] using this
end Go.Proofs.YtghfbhobpodoeaaGreatDoor.Sp
/- Px3 -/
namespace Go.Proofs.YtghfbhobpodoeaaGreatDoor.P
open Go.Proofs.YtghfbhobpodoeaaGreatDoor.B
open Go.RowKit Go.Proofs.YtghfbhobpodoeaaGreatDoorW.PrintWords Go.Proofs.YtghfbhobpodoeaaGreatDoorW.PrintLast Go.Proofs.YtghfbhobpodoeaaGreatDoorW.PrintMore
attribute [local go_sem] run_store_float str_leq str_gtr str_geq max2_int min2_int max_two min_two max_three min_three max_four min_four
set_option linter.unusedVariables false
set_option linter.unusedSimpArgs false
mutual
def broadsheetref13_quote.j0 : Nat → ByteArray → Bool → Option (ByteArray)
  | 0, _, _ => none
  | k + 1, x0, x17 => if x17 = true then (some x0) else (broadsheetref13_quote.l0 k x0 (⟨#[34]⟩ : ByteArray) 0)
def broadsheetref13_quote.l0 : Nat → ByteArray → ByteArray → Int → Option (ByteArray)
  | 0, _, _, _ => none
  | k + 1, x0, x5, x6 => if x6 < (x0.size : Int) then (if 0 ≤ x6 then (if (bt x0 x6) = 34 then (if x5.size + 1 ≤ 9223372036854775807 then (if x6 ≤ (wrap64 (x6 + 1)) then (if (wrap64 (x6 + 1)) ≤ (x0.size : Int) then (if (x5 ++ (⟨#[92]⟩ : ByteArray)).size + (x0.extract (x6 : Int).toNat ((wrap64 (x6 + 1)) : Int).toNat).size ≤ 9223372036854775807 then (broadsheetref13_quote.l0 k x0 ((x5 ++ (⟨#[92]⟩ : ByteArray)) ++ (x0.extract (x6 : Int).toNat ((wrap64 (x6 + 1)) : Int).toNat)) (wrap64 (x6 + 1))) else (none)) else (none)) else (none)) else (none)) else (if (bt x0 x6) = 92 then (if x5.size + 1 ≤ 9223372036854775807 then (if x6 ≤ (wrap64 (x6 + 1)) then (if (wrap64 (x6 + 1)) ≤ (x0.size : Int) then (if (x5 ++ (⟨#[92]⟩ : ByteArray)).size + (x0.extract (x6 : Int).toNat ((wrap64 (x6 + 1)) : Int).toNat).size ≤ 9223372036854775807 then (broadsheetref13_quote.l0 k x0 ((x5 ++ (⟨#[92]⟩ : ByteArray)) ++ (x0.extract (x6 : Int).toNat ((wrap64 (x6 + 1)) : Int).toNat)) (wrap64 (x6 + 1))) else (none)) else (none)) else (none)) else (none)) else (if x6 ≤ (wrap64 (x6 + 1)) then (if (wrap64 (x6 + 1)) ≤ (x0.size : Int) then (if x5.size + (x0.extract (x6 : Int).toNat ((wrap64 (x6 + 1)) : Int).toNat).size ≤ 9223372036854775807 then (broadsheetref13_quote.l0 k x0 (x5 ++ (x0.extract (x6 : Int).toNat ((wrap64 (x6 + 1)) : Int).toNat)) (wrap64 (x6 + 1))) else (none)) else (none)) else (none)))) else (none)) else (if x5.size + 1 ≤ 9223372036854775807 then (some (x5 ++ (⟨#[34]⟩ : ByteArray))) else (none))
end
def broadsheetref13_quote.f (k : Nat) (a0 : ByteArray) : Option (ByteArray) := (broadsheetref13_Token.f k a0).bind fun bt102 => (if bt102.1.toList = ([] : List UInt8) then (broadsheetref13_quote.j0 k a0 false) else (broadsheetref13_quote.j0 k a0 (bt102.2.toList == ([] : List UInt8))))
set_option maxHeartbeats 8000000 in
set_option maxRecDepth 100000 in
theorem broadsheetref13_quote.calls (k : Nat) (a0 : ByteArray) (r : ByteArray) (w : World) (h : broadsheetref13_quote.f k a0 = some r) :
  Calls Tryz.prog 26 #[.string a0] w fun e w' => e = .returned (.string r) ∧ Drawn0 w w' := by
 have H : ((broadsheetref13_Token.f k a0).bind fun bt102 => (if bt102.1.toList = ([] : List UInt8) then (broadsheetref13_quote.j0 k a0 false) else (broadsheetref13_quote.j0 k a0 (bt102.2.toList == ([] : List UInt8))))) = some r := h
 clear h
 replace H := Option.bind_eq_some_iff.mp H
 obtain ⟨⟨t102, t103⟩, A20, H⟩ := H
 replace H : (if t102.toList = ([] : List UInt8) then (broadsheetref13_quote.j0 k a0 false) else (broadsheetref13_quote.j0 k a0 (t103.toList == ([] : List UInt8)))) = some r := H
 have A2 := Aside0.mk A20
 clear A20
 have HC3 := Aside0.mk H
 clear H
 go_enter Tryz.func26, Tryz.ntmps26
 go_upto_region 2 with (first | ((with_reducible refine gate_callee (f := 46) rfl ?_); refine goesL_ (some 9) rfl rfl Tryz.func46 zb9 rfl #[.string a0] rfl zb2 ?_; (with_reducible refine (broadsheetref13_Token.calls k a0 t102 t103 _ A2.out).mono ?_); rintro e w' ⟨rfl, ⟨nd, rfl⟩⟩; refine ⟨_, rfl, ?_⟩))
 (try simp only [Act.put, List.setIfInBounds_toArray, List.set_cons_zero, List.set_cons_succ])
 go_cut [17] (fun v17 wc => ∃ (kq : Nat) (x17_2 : Bool), v17 = .bool x17_2 ∧ Aside0 (broadsheetref13_quote.j0 kq a0 x17_2 = some r) ∧ Aside0 (kq ≤ k) ∧ Drawn0 w wc)
 case first =>
  have H := HC3.out
  clear HC3
  by_cases c4 : t102.toList = ([] : List UInt8)
  ·rw [if_pos c4] at H
   have c4b0 : (t102.toList == ([] : List UInt8)) = true := beq_iff_eq.mpr c4
   have c4b1 : (t102.toList != ([] : List UInt8)) = false := bne_eq_false_iff_eq.mpr c4
   clear c4
   (first | rw [c4b0] | (simp only [i64_w, i32_w]; rw [c4b0]) | skip)
   have H' := Aside0.mk H
   clear H
   go_wp2
   go_meet
   case rel => exact ⟨_, (false), zb4, H', ⟨by first | omega | exact Nat.le_refl _⟩, by repeat (first | exact Drawn0.refl _ | apply Drawn0.step)⟩
  ·rw [if_neg c4] at H
   have c4b0 : (t102.toList == ([] : List UInt8)) = false := beq_eq_false_iff_ne.mpr c4
   have c4b1 : (t102.toList != ([] : List UInt8)) = true := bne_iff_ne.mpr c4
   (first | rw [c4b0] | (simp only [i64_w, i32_w]; rw [c4b0]) | skip)
   have H' := Aside0.mk H
   clear H
   go_wp2
   go_meet
   case rel => exact ⟨_, ((t103.toList == ([] : List UInt8))), zb4, H', ⟨by first | omega | exact Nat.le_refl _⟩, by repeat (first | exact Drawn0.refl _ | apply Drawn0.step)⟩
 case rest =>
  clear HC3
  try clear c2
  try clear p2
  try clear c4
  try clear c4b0
  try clear c4b1
  obtain ⟨kq, x17_2, rfl, HA, HJ2, ⟨mc2, rfl⟩⟩ := hcut
  cases kq with
  | zero => exact absurd HA.out (by simp [broadsheetref13_quote.j0])
  | succ kj2 =>
   have H := HA.out
   clear HA
   simp only [broadsheetref13_quote.j0] at H
   by_cases c5 : x17_2 = true
   ·subst c5
    replace H : (some a0) = some r := by rw [if_pos rfl] at H; exact H
    obtain rfl := Option.some.inj H
    go_wp2
    go_ret
    exact ⟨by first | rfl | (simp; done) | (simp [*]; done), by repeat (first | exact Drawn0.refl _ | apply Drawn0.step)⟩
   ·replace c5 := Bool.eq_false_iff.mpr c5
    subst c5
    replace H : (broadsheetref13_quote.l0 kj2 a0 (⟨#[34]⟩ : ByteArray) 0) = some r := by rw [if_neg (show ¬ (false = true) by decide)] at H; exact H
    have H' := Aside0.mk H
    clear H
    go_wp2
    first | go_loopg [5, 6] kj2 (fun kq v5 v6 w' => ∃ (x5_2 : ByteArray) (x6_2 : Int), v5 = .string x5_2 ∧ v6 = .int .i64 x6_2 ∧ Aside0 (broadsheetref13_quote.l0 kq a0 x5_2 x6_2 = some r) ∧ Aside0 (kq ≤ kj2) ∧ Drawn0 w w') | (go_simp; go_loopg [5, 6] kj2 (fun kq v5 v6 w' => ∃ (x5_2 : ByteArray) (x6_2 : Int), v5 = .string x5_2 ∧ v6 = .int .i64 x6_2 ∧ Aside0 (broadsheetref13_quote.l0 kq a0 x5_2 x6_2 = some r) ∧ Aside0 (kq ≤ kj2) ∧ Drawn0 w w'))
    case atStart => exact ⟨((⟨#[34]⟩ : ByteArray)), (0), zb4, zb4, H', ⟨Nat.le_refl _⟩, by repeat (first | exact Drawn0.refl _ | apply Drawn0.step)⟩
    case round =>
     clear H'
     try clear c2
     try clear p2
     try clear c4
     try clear c4b0
     try clear c4b1
     try clear c5
     try clear p2
     obtain ⟨x5_2, x6_2, rfl, rfl, HA, HK2, ⟨m2, rfl⟩⟩ := hrel
     cases gk with
     | zero => exact absurd HA.out (by simp [broadsheetref13_quote.l0])
     | succ k2 =>
      have H := HA.out
      clear HA
      simp only [broadsheetref13_quote.l0] at H
      by_cases c6 : x6_2 < (a0.size : Int)
      ·rw [if_pos c6] at H
       have c6b0 : decide (x6_2 < (a0.size : Int)) = true := decide_eq_true c6
       clear c6
       by_cases c7 : 0 ≤ x6_2
       ·rw [if_pos c7] at H
        have c7b0 : decide (0 ≤ x6_2) = true := decide_eq_true c7
        clear c7
        by_cases c9 : (bt a0 x6_2) = 34
        ·rw [if_pos c9] at H
         have c9b0 : ((bt a0 x6_2) == 34) = true := beq_iff_eq.mpr c9
         have c9b1 : ((bt a0 x6_2) != 34) = false := bne_eq_false_iff_eq.mpr c9
         clear c9
         by_cases c10 : x5_2.size + 1 ≤ 9223372036854775807
         ·rw [if_pos c10] at H
          have c10b0 := eq_true c10
          have c10b1 : decide (x5_2.size + 1 ≤ 9223372036854775807) = true := decide_eq_true c10
          try have c10b2 : (9223372036854775807 < x5_2.size + 1) = False := eq_false (Nat.not_lt.2 c10)
          have c11b0 := eq_true (of_decide_eq_true zb3 : 0 ≤ x6_2)
          by_cases c12 : x6_2 ≤ (wrap64 (x6_2 + 1))
          ·rw [if_pos c12] at H
           have c12b0 := eq_true c12
           have c12b1 : decide (x6_2 ≤ (wrap64 (x6_2 + 1))) = true := decide_eq_true c12
           by_cases c13 : (wrap64 (x6_2 + 1)) ≤ (a0.size : Int)
           ·rw [if_pos c13] at H
            have c13b0 := eq_true c13
            have c13b1 : decide ((wrap64 (x6_2 + 1)) ≤ (a0.size : Int)) = true := decide_eq_true c13
            by_cases c14 : (x5_2 ++ (⟨#[92]⟩ : ByteArray)).size + (a0.extract (x6_2 : Int).toNat ((wrap64 (x6_2 + 1)) : Int).toNat).size ≤ 9223372036854775807
            ·rw [if_pos c14] at H
             have c14b0 := eq_true c14
             have c14b1 : decide ((x5_2 ++ (⟨#[92]⟩ : ByteArray)).size + (a0.extract (x6_2 : Int).toNat ((wrap64 (x6_2 + 1)) : Int).toNat).size ≤ 9223372036854775807) = true := decide_eq_true c14
             try have c14b2 : (9223372036854775807 < (x5_2 ++ (⟨#[92]⟩ : ByteArray)).size + (a0.extract (x6_2 : Int).toNat ((wrap64 (x6_2 + 1)) : Int).toNat).size) = False := eq_false (Nat.not_lt.2 c14)
             obtain ⟨nc14, hc14⟩ : ∃ n_ : Nat, n_ = (x5_2 ++ (⟨#[92]⟩ : ByteArray)).size + (a0.extract (x6_2 : Int).toNat ((wrap64 (x6_2 + 1)) : Int).toNat).size := ⟨_, rfl⟩
             have c14m0 : nc14 ≤ 9223372036854775807 := by rw [hc14]; exact c14
             (first | simp [go_sem, c10b0, c12b0, c13b0] at hc14 | simp [go_sem] at hc14 | skip)
             rw [hc14] at c14m0
             have c14m1 := eq_false (Nat.not_lt.2 c14m0)
             have c14m2 := decide_eq_true c14m0
             clear hc14 c14m0
             have H' := Aside0.mk H
             clear H
             have p8 : 0 ≤ (x6_2 : Int) := of_decide_eq_true zb3
             have q8 : x6_2 < (a0.size : Int) := of_decide_eq_true zb3
             have hx8 := bt_at a0 x6_2
             replace p8 := eq_true p8
             replace q8 := eq_true q8
             go_wp2
             go_roundg k2
             case measure => have := HJ2.out; have := HK2.out; omega
             case rel => exact ⟨((x5_2 ++ (⟨#[92]⟩ : ByteArray)) ++ (a0.extract (x6_2 : Int).toNat ((wrap64 (x6_2 + 1)) : Int).toNat)), (wrap64 (x6_2 + 1)), zb4, zb4, H', ⟨by have := HJ2.out; have := HK2.out; omega⟩, by repeat (first | exact Drawn0.refl _ | apply Drawn0.step)⟩
            ·rw [if_neg c14] at H
             exact absurd H zb45
           ·rw [if_neg c13] at H
            exact absurd H zb45
          ·rw [if_neg c12] at H
           exact absurd H zb45
         ·rw [if_neg c10] at H
          exact absurd H zb45
        ·rw [if_neg c9] at H
         have c9b0 : ((bt a0 x6_2) == 34) = false := beq_eq_false_iff_ne.mpr c9
         have c9b1 : ((bt a0 x6_2) != 34) = true := bne_iff_ne.mpr c9
         by_cases c16 : (bt a0 x6_2) = 92
         ·rw [if_pos c16] at H
          have c16b0 : ((bt a0 x6_2) == 92) = true := beq_iff_eq.mpr c16
          have c16b1 : ((bt a0 x6_2) != 92) = false := bne_eq_false_iff_eq.mpr c16
          clear c16
          by_cases c17 : x5_2.size + 1 ≤ 9223372036854775807
          ·rw [if_pos c17] at H
           have c17b0 := eq_true c17
           have c17b1 : decide (x5_2.size + 1 ≤ 9223372036854775807) = true := decide_eq_true c17
           try have c17b2 : (9223372036854775807 < x5_2.size + 1) = False := eq_false (Nat.not_lt.2 c17)
           have c18b0 := eq_true (of_decide_eq_true zb3 : 0 ≤ x6_2)
           by_cases c19 : x6_2 ≤ (wrap64 (x6_2 + 1))
           ·rw [if_pos c19] at H
            have c19b0 := eq_true c19
            have c19b1 : decide (x6_2 ≤ (wrap64 (x6_2 + 1))) = true := decide_eq_true c19
            by_cases c20 : (wrap64 (x6_2 + 1)) ≤ (a0.size : Int)
            ·rw [if_pos c20] at H
             have c20b0 := eq_true c20
             have c20b1 : decide ((wrap64 (x6_2 + 1)) ≤ (a0.size : Int)) = true := decide_eq_true c20
             by_cases c21 : (x5_2 ++ (⟨#[92]⟩ : ByteArray)).size + (a0.extract (x6_2 : Int).toNat ((wrap64 (x6_2 + 1)) : Int).toNat).size ≤ 9223372036854775807
             ·rw [if_pos c21] at H
              have c21b0 := eq_true c21
              have c21b1 : decide ((x5_2 ++ (⟨#[92]⟩ : ByteArray)).size + (a0.extract (x6_2 : Int).toNat ((wrap64 (x6_2 + 1)) : Int).toNat).size ≤ 9223372036854775807) = true := decide_eq_true c21
              try have c21b2 : (9223372036854775807 < (x5_2 ++ (⟨#[92]⟩ : ByteArray)).size + (a0.extract (x6_2 : Int).toNat ((wrap64 (x6_2 + 1)) : Int).toNat).size) = False := eq_false (Nat.not_lt.2 c21)
              obtain ⟨nc21, hc21⟩ : ∃ n_ : Nat, n_ = (x5_2 ++ (⟨#[92]⟩ : ByteArray)).size + (a0.extract (x6_2 : Int).toNat ((wrap64 (x6_2 + 1)) : Int).toNat).size := ⟨_, rfl⟩
              have c21m0 : nc21 ≤ 9223372036854775807 := by rw [hc21]; exact c21
              (first | simp [go_sem, c17b0, c19b0, c20b0] at hc21 | simp [go_sem] at hc21 | skip)
              rw [hc21] at c21m0
              have c21m1 := eq_false (Nat.not_lt.2 c21m0)
              have c21m2 := decide_eq_true c21m0
              clear hc21 c21m0
              have H' := Aside0.mk H
              clear H
              have p8 : 0 ≤ (x6_2 : Int) := of_decide_eq_true zb3
              have q8 : x6_2 < (a0.size : Int) := of_decide_eq_true zb3
              have hx8 := bt_at a0 x6_2
              replace p8 := eq_true p8
              replace q8 := eq_true q8
              have p15 : 0 ≤ (x6_2 : Int) := of_decide_eq_true zb3
              have q15 : x6_2 < (a0.size : Int) := of_decide_eq_true zb3
              have hx15 := bt_at a0 x6_2
              replace p15 := eq_true p15
              replace q15 := eq_true q15
              go_wp2
              go_roundg k2
              case measure => have := HJ2.out; have := HK2.out; omega
              case rel => exact ⟨((x5_2 ++ (⟨#[92]⟩ : ByteArray)) ++ (a0.extract (x6_2 : Int).toNat ((wrap64 (x6_2 + 1)) : Int).toNat)), (wrap64 (x6_2 + 1)), zb4, zb4, H', ⟨by have := HJ2.out; have := HK2.out; omega⟩, by repeat (first | exact Drawn0.refl _ | apply Drawn0.step)⟩
             ·rw [if_neg c21] at H
              exact absurd H zb45
            ·rw [if_neg c20] at H
             exact absurd H zb45
           ·rw [if_neg c19] at H
            exact absurd H zb45
          ·rw [if_neg c17] at H
           exact absurd H zb45
         ·rw [if_neg c16] at H
          have c16b0 : ((bt a0 x6_2) == 92) = false := beq_eq_false_iff_ne.mpr c16
          have c16b1 : ((bt a0 x6_2) != 92) = true := bne_iff_ne.mpr c16
          have c22b0 := eq_true (of_decide_eq_true zb3 : 0 ≤ x6_2)
          by_cases c23 : x6_2 ≤ (wrap64 (x6_2 + 1))
          ·rw [if_pos c23] at H
           have c23b0 := eq_true c23
           have c23b1 : decide (x6_2 ≤ (wrap64 (x6_2 + 1))) = true := decide_eq_true c23
           by_cases c24 : (wrap64 (x6_2 + 1)) ≤ (a0.size : Int)
           ·rw [if_pos c24] at H
            have c24b0 := eq_true c24
            have c24b1 : decide ((wrap64 (x6_2 + 1)) ≤ (a0.size : Int)) = true := decide_eq_true c24
            by_cases c25 : x5_2.size + (a0.extract (x6_2 : Int).toNat ((wrap64 (x6_2 + 1)) : Int).toNat).size ≤ 9223372036854775807
            ·rw [if_pos c25] at H
             have c25b0 := eq_true c25
             have c25b1 : decide (x5_2.size + (a0.extract (x6_2 : Int).toNat ((wrap64 (x6_2 + 1)) : Int).toNat).size ≤ 9223372036854775807) = true := decide_eq_true c25
             try have c25b2 : (9223372036854775807 < x5_2.size + (a0.extract (x6_2 : Int).toNat ((wrap64 (x6_2 + 1)) : Int).toNat).size) = False := eq_false (Nat.not_lt.2 c25)
             obtain ⟨nc25, hc25⟩ : ∃ n_ : Nat, n_ = x5_2.size + (a0.extract (x6_2 : Int).toNat ((wrap64 (x6_2 + 1)) : Int).toNat).size := ⟨_, rfl⟩
             have c25m0 : nc25 ≤ 9223372036854775807 := by rw [hc25]; exact c25
             (first | simp [go_sem, c23b0, c24b0] at hc25 | simp [go_sem] at hc25 | skip)
             rw [hc25] at c25m0
             have c25m1 := eq_false (Nat.not_lt.2 c25m0)
             have c25m2 := decide_eq_true c25m0
             clear hc25 c25m0
             have H' := Aside0.mk H
             clear H
             have p8 : 0 ≤ (x6_2 : Int) := of_decide_eq_true zb3
             have q8 : x6_2 < (a0.size : Int) := of_decide_eq_true zb3
             have hx8 := bt_at a0 x6_2
             replace p8 := eq_true p8
             replace q8 := eq_true q8
             have p15 : 0 ≤ (x6_2 : Int) := of_decide_eq_true zb3
             have q15 : x6_2 < (a0.size : Int) := of_decide_eq_true zb3
             have hx15 := bt_at a0 x6_2
             replace p15 := eq_true p15
             replace q15 := eq_true q15
             go_wp2
             go_roundg k2
             case measure => have := HJ2.out; have := HK2.out; omega
             case rel => exact ⟨(x5_2 ++ (a0.extract (x6_2 : Int).toNat ((wrap64 (x6_2 + 1)) : Int).toNat)), (wrap64 (x6_2 + 1)), zb4, zb4, H', ⟨by have := HJ2.out; have := HK2.out; omega⟩, by repeat (first | exact Drawn0.refl _ | apply Drawn0.step)⟩
            ·rw [if_neg c25] at H
             exact absurd H zb45
           ·rw [if_neg c24] at H
            exact absurd H zb45
          ·rw [if_neg c23] at H
           exact absurd H zb45
       ·rw [if_neg c7] at H
        exact absurd H zb45
      ·rw [if_neg c6] at H
       have c6b0 : decide (x6_2 < (a0.size : Int)) = false := decide_eq_false c6
       clear c6
       by_cases c26 : x5_2.size + 1 ≤ 9223372036854775807
       ·rw [if_pos c26] at H
        have c26b0 := eq_true c26
        have c26b1 : decide (x5_2.size + 1 ≤ 9223372036854775807) = true := decide_eq_true c26
        try have c26b2 : (9223372036854775807 < x5_2.size + 1) = False := eq_false (Nat.not_lt.2 c26)
        obtain rfl := Option.some.inj H
        go_wp2
        go_ret
        exact ⟨by first | rfl | (simp; done) | (simp [*]; done), by repeat (first | exact Drawn0.refl _ | apply Drawn0.step)⟩
       ·rw [if_neg c26] at H
        exact absurd H zb45
def broadsheetref13_Print.l0 : Nat → ByteArray → Int → ByteArray → ByteArray → List (S50) → Option (ByteArray)
  | 0, _, _, _, _, _ => none
  | k + 1, x3, x4, x105000, x105001, x105002 => if x4 < (x105002.length : Int) then (if x3.size + 2 ≤ 9223372036854775807 then (if 0 ≤ x4 then (if (x3 ++ (⟨#[59, 32]⟩ : ByteArray)).size + ((rd_T50 x105002 x4).f0).size ≤ 9223372036854775807 then (if ((x3 ++ (⟨#[59, 32]⟩ : ByteArray)) ++ ((rd_T50 x105002 x4).f0)).size + 1 ≤ 9223372036854775807 then ((broadsheetref13_quote.f k ((rd_T50 x105002 x4).f1)).bind fun t107 => (if (((x3 ++ (⟨#[59, 32]⟩ : ByteArray)) ++ ((rd_T50 x105002 x4).f0)) ++ (⟨#[61]⟩ : ByteArray)).size + t107.size ≤ 9223372036854775807 then (broadsheetref13_Print.l0 k ((((x3 ++ (⟨#[59, 32]⟩ : ByteArray)) ++ ((rd_T50 x105002 x4).f0)) ++ (⟨#[61]⟩ : ByteArray)) ++ t107) (wrap64 (x4 + 1)) x105000 x105001 x105002) else (none))) else (none)) else (none)) else (none)) else (none)) else (some x3)
def broadsheetref13_Print.f (k : Nat) (a0_0 : ByteArray) (a0_1 : ByteArray) (l0_2 : List (S50)) : Option (ByteArray) := if a0_0.size + 1 ≤ 9223372036854775807 then (if (a0_0 ++ (⟨#[47]⟩ : ByteArray)).size + a0_1.size ≤ 9223372036854775807 then (broadsheetref13_Print.l0 k ((a0_0 ++ (⟨#[47]⟩ : ByteArray)) ++ a0_1) 0 a0_0 a0_1 l0_2) else (none)) else (none)
set_option maxHeartbeats 8000000 in
set_option maxRecDepth 100000 in
theorem broadsheetref13_Print.calls (k : Nat) (a0_0 : ByteArray) (a0_1 : ByteArray) (A0_2 : Option Addr) (c0_2 : Nat) (l0_2 : List (S50)) (r : ByteArray) (w : World) (hr0_2 : Kd.C k50 w A0_2 l0_2.length l0_2) (hc0_2 : l0_2.length ≤ c0_2) (h : broadsheetref13_Print.f k a0_0 a0_1 l0_2 = some r) :
  Calls Tryz.prog 15 #[.agg #[.string a0_0, .string a0_1, .slice A0_2 l0_2.length c0_2]] w fun e w' => e = .returned (.string r) ∧ Below w.heap.size w w' := by
 have hu40 := Tryz.underlying40
 have HR0_2 := Aside0.mk hr0_2
 have HC0_2 := Aside0.mk hc0_2
 clear hr0_2 hc0_2
 have HB := Aside0.mk (Below.refl w.heap.size w)
 have H : (if a0_0.size + 1 ≤ 9223372036854775807 then (if (a0_0 ++ (⟨#[47]⟩ : ByteArray)).size + a0_1.size ≤ 9223372036854775807 then (broadsheetref13_Print.l0 k ((a0_0 ++ (⟨#[47]⟩ : ByteArray)) ++ a0_1) 0 a0_0 a0_1 l0_2) else (none)) else (none)) = some r := h
 clear h
 by_cases c2 : a0_0.size + 1 ≤ 9223372036854775807
 ·rw [if_pos c2] at H
  have c2b0 := eq_true c2
  have c2b1 : decide (a0_0.size + 1 ≤ 9223372036854775807) = true := decide_eq_true c2
  try have c2b2 : (9223372036854775807 < a0_0.size + 1) = False := eq_false (Nat.not_lt.2 c2)
  by_cases c3 : (a0_0 ++ (⟨#[47]⟩ : ByteArray)).size + a0_1.size ≤ 9223372036854775807
  ·rw [if_pos c3] at H
   have c3b0 := eq_true c3
   have c3b1 : decide ((a0_0 ++ (⟨#[47]⟩ : ByteArray)).size + a0_1.size ≤ 9223372036854775807) = true := decide_eq_true c3
   try have c3b2 : (9223372036854775807 < (a0_0 ++ (⟨#[47]⟩ : ByteArray)).size + a0_1.size) = False := eq_false (Nat.not_lt.2 c3)
   obtain ⟨nc3, hc3⟩ : ∃ n_ : Nat, n_ = (a0_0 ++ (⟨#[47]⟩ : ByteArray)).size + a0_1.size := ⟨_, rfl⟩
   have c3m0 : nc3 ≤ 9223372036854775807 := by rw [hc3]; exact c3
   (first | simp [go_sem, c2b0] at hc3 | simp [go_sem] at hc3 | skip)
   rw [hc3] at c3m0
   have c3m1 := eq_false (Nat.not_lt.2 c3m0)
   have c3m2 := decide_eq_true c3m0
   clear hc3 c3m0
   have H' := Aside0.mk H
   clear H
   go_enter Tryz.func15, Tryz.ntmps15
   go_wp2_with (first | ((with_reducible refine gate_dst (N := 1) rfl ?_); refine box_event ?hg (N := 1) ?hd (cs := #[.string a0_0, .string a0_1, .slice A0_2 l0_2.length c0_2]) (t := 40) ?hr ?_; (case hd => rfl); (case hg => rfl); (case hr => first | (go_simp; done) | (go_simp; rfl)); intro gb104 hg w4 hbox hb; have n0_ := Aside0.mk (below_step zb0 hb); have n1_ := Aside0.mk (hbox); have n2_ := Aside0.mk ((by rw [hg]; exact (below_size zb0) : w.heap.size ≤ gb104)); have n3_ := Aside0.mk ((by rw [hg]; exact (below_size zb0) : w.heap.size ≤ gb104)); clear HB; have HB := n0_; have BK104 := n1_; have GW104 := n2_; have GE104 := n3_; clear n0_ n1_ n2_ n3_; clear hb hbox hg; have hcz5_0 : w4.cell? ⟨gb104, 0, none⟩ = some (.string a0_0) := (blk_cell BK104.out 0).trans rfl; have hcz5_1 : w4.cell? ⟨gb104, 1, none⟩ = some (.string a0_1) := (blk_cell BK104.out 1).trans rfl; have hcz5_2 : w4.cell? ⟨gb104, 2, none⟩ = some (.slice A0_2 l0_2.length c0_2) := (blk_cell BK104.out 2).trans rfl; have hfz5_0 := blk_frozen BK104.out 0; have hfz5_1 := blk_frozen BK104.out 1; have hfz5_2 := blk_frozen BK104.out 2))
   repeat (go_quiet (first | ((with_reducible refine gate_dst (N := 1) rfl ?_); refine box_event ?hg (N := 1) ?hd (cs := #[.string a0_0, .string a0_1, .slice A0_2 l0_2.length c0_2]) (t := 40) ?hr ?_; (case hd => rfl); (case hg => rfl); (case hr => first | (go_simp; done) | (go_simp; rfl)); intro gb104 hg w4 hbox hb; have n0_ := Aside0.mk (below_step zb0 hb); have n1_ := Aside0.mk (hbox); have n2_ := Aside0.mk ((by rw [hg]; exact (below_size zb0) : w.heap.size ≤ gb104)); have n3_ := Aside0.mk ((by rw [hg]; exact (below_size zb0) : w.heap.size ≤ gb104)); clear HB; have HB := n0_; have BK104 := n1_; have GW104 := n2_; have GE104 := n3_; clear n0_ n1_ n2_ n3_; clear hb hbox hg; have hcz5_0 : w4.cell? ⟨gb104, 0, none⟩ = some (.string a0_0) := (blk_cell BK104.out 0).trans rfl; have hcz5_1 : w4.cell? ⟨gb104, 1, none⟩ = some (.string a0_1) := (blk_cell BK104.out 1).trans rfl; have hcz5_2 : w4.cell? ⟨gb104, 2, none⟩ = some (.slice A0_2 l0_2.length c0_2) := (blk_cell BK104.out 2).trans rfl; have hfz5_0 := blk_frozen BK104.out 0; have hfz5_1 := blk_frozen BK104.out 1; have hfz5_2 := blk_frozen BK104.out 2)); try go_wp2_with (first | ((with_reducible refine gate_dst (N := 1) rfl ?_); refine box_event ?hg (N := 1) ?hd (cs := #[.string a0_0, .string a0_1, .slice A0_2 l0_2.length c0_2]) (t := 40) ?hr ?_; (case hd => rfl); (case hg => rfl); (case hr => first | (go_simp; done) | (go_simp; rfl)); intro gb104 hg w4 hbox hb; have n0_ := Aside0.mk (below_step zb0 hb); have n1_ := Aside0.mk (hbox); have n2_ := Aside0.mk ((by rw [hg]; exact (below_size zb0) : w.heap.size ≤ gb104)); have n3_ := Aside0.mk ((by rw [hg]; exact (below_size zb0) : w.heap.size ≤ gb104)); clear HB; have HB := n0_; have BK104 := n1_; have GW104 := n2_; have GE104 := n3_; clear n0_ n1_ n2_ n3_; clear hb hbox hg; have hcz5_0 : w4.cell? ⟨gb104, 0, none⟩ = some (.string a0_0) := (blk_cell BK104.out 0).trans rfl; have hcz5_1 : w4.cell? ⟨gb104, 1, none⟩ = some (.string a0_1) := (blk_cell BK104.out 1).trans rfl; have hcz5_2 : w4.cell? ⟨gb104, 2, none⟩ = some (.slice A0_2 l0_2.length c0_2) := (blk_cell BK104.out 2).trans rfl; have hfz5_0 := blk_frozen BK104.out 0; have hfz5_1 := blk_frozen BK104.out 1; have hfz5_2 := blk_frozen BK104.out 2)))
   first | go_loopg [3, 4] k (fun kq v3 v4 w' => ∃ (x3_1 : ByteArray) (x4_1 : Int), v3 = .string x3_1 ∧ v4 = .int .i64 x4_1 ∧ Aside0 (broadsheetref13_Print.l0 kq x3_1 x4_1 a0_0 a0_1 l0_2 = some r) ∧ Aside0 (kq ≤ k) ∧ Aside0 (w'.heap[gb104]? = some (.cells #[.string a0_0, .string a0_1, (.slice A0_2 l0_2.length c0_2)] 40 (0, 0))) ∧ Aside0 (Below w.heap.size w w')) | (go_simp; go_loopg [3, 4] k (fun kq v3 v4 w' => ∃ (x3_1 : ByteArray) (x4_1 : Int), v3 = .string x3_1 ∧ v4 = .int .i64 x4_1 ∧ Aside0 (broadsheetref13_Print.l0 kq x3_1 x4_1 a0_0 a0_1 l0_2 = some r) ∧ Aside0 (kq ≤ k) ∧ Aside0 (w'.heap[gb104]? = some (.cells #[.string a0_0, .string a0_1, (.slice A0_2 l0_2.length c0_2)] 40 (0, 0))) ∧ Aside0 (Below w.heap.size w w')))
   case atStart => exact ⟨((a0_0 ++ (⟨#[47]⟩ : ByteArray)) ++ a0_1), (0), zb4, zb4, H', ⟨Nat.le_refl _⟩, ⟨by (with_reducible repeat (first | refine blk_drewN ?_ _ | refine blk_drew ?_ | refine blk_alloc ?_ _)); exact BK104.out⟩, ⟨by repeat (first | (with_reducible first | exact HB.out | apply below_alloc | apply pw_below_drewN | apply below_drew1 | refine below_set ?_ GE104.out) | exact HB.out)⟩⟩
   case round =>
    clear H'
    try clear c1
    try clear c2
    try clear c2b0
    try clear c2b1
    try clear c2b2
    try clear p2
    try clear c3
    try clear c3b0
    try clear c3b1
    try clear c3b2
    try clear hcz5_0
    try clear hcz5_1
    try clear hcz5_2
    try clear hfz5_0
    try clear hfz5_1
    try clear hfz5_2
    obtain ⟨x3_1, x4_1, rfl, rfl, HA, HK1, BK104, HB⟩ := hrel
    cases gk with
    | zero => exact absurd HA.out (by simp [broadsheetref13_Print.l0])
    | succ k1 =>
     have H := HA.out
     clear HA
     simp only [broadsheetref13_Print.l0] at H
     by_cases c6 : x4_1 < (l0_2.length : Int)
     ·rw [if_pos c6] at H
      have c6b0 : decide (x4_1 < (l0_2.length : Int)) = true := decide_eq_true c6
      clear c6
      by_cases c7 : x3_1.size + 2 ≤ 9223372036854775807
      ·rw [if_pos c7] at H
       have c7b0 := eq_true c7
       have c7b1 : decide (x3_1.size + 2 ≤ 9223372036854775807) = true := decide_eq_true c7
       try have c7b2 : (9223372036854775807 < x3_1.size + 2) = False := eq_false (Nat.not_lt.2 c7)
       by_cases c8 : 0 ≤ x4_1
       ·rw [if_pos c8] at H
        have c8b0 : decide (0 ≤ x4_1) = true := decide_eq_true c8
        clear c8
        by_cases c9 : (x3_1 ++ (⟨#[59, 32]⟩ : ByteArray)).size + ((rd_T50 l0_2 x4_1).f0).size ≤ 9223372036854775807
        ·rw [if_pos c9] at H
         have c9b0 := eq_true c9
         have c9b1 : decide ((x3_1 ++ (⟨#[59, 32]⟩ : ByteArray)).size + ((rd_T50 l0_2 x4_1).f0).size ≤ 9223372036854775807) = true := decide_eq_true c9
         try have c9b2 : (9223372036854775807 < (x3_1 ++ (⟨#[59, 32]⟩ : ByteArray)).size + ((rd_T50 l0_2 x4_1).f0).size) = False := eq_false (Nat.not_lt.2 c9)
         obtain ⟨nc9, hc9⟩ : ∃ n_ : Nat, n_ = (x3_1 ++ (⟨#[59, 32]⟩ : ByteArray)).size + ((rd_T50 l0_2 x4_1).f0).size := ⟨_, rfl⟩
         have c9m0 : nc9 ≤ 9223372036854775807 := by rw [hc9]; exact c9
         (first | simp [go_sem, c2b0, c3b0, c7b0] at hc9 | simp [go_sem] at hc9 | skip)
         rw [hc9] at c9m0
         have c9m1 := eq_false (Nat.not_lt.2 c9m0)
         have c9m2 := decide_eq_true c9m0
         clear hc9 c9m0
         by_cases c10 : ((x3_1 ++ (⟨#[59, 32]⟩ : ByteArray)) ++ ((rd_T50 l0_2 x4_1).f0)).size + 1 ≤ 9223372036854775807
         ·rw [if_pos c10] at H
          have c10b0 := eq_true c10
          have c10b1 : decide (((x3_1 ++ (⟨#[59, 32]⟩ : ByteArray)) ++ ((rd_T50 l0_2 x4_1).f0)).size + 1 ≤ 9223372036854775807) = true := decide_eq_true c10
          try have c10b2 : (9223372036854775807 < ((x3_1 ++ (⟨#[59, 32]⟩ : ByteArray)) ++ ((rd_T50 l0_2 x4_1).f0)).size + 1) = False := eq_false (Nat.not_lt.2 c10)
          obtain ⟨nc10, hc10⟩ : ∃ n_ : Nat, n_ = ((x3_1 ++ (⟨#[59, 32]⟩ : ByteArray)) ++ ((rd_T50 l0_2 x4_1).f0)).size + 1 := ⟨_, rfl⟩
          have c10m0 : nc10 ≤ 9223372036854775807 := by rw [hc10]; exact c10
          (first | simp [go_sem, c2b0, c3b0, c7b0, c9b0] at hc10 | simp [go_sem] at hc10 | skip)
          rw [hc10] at c10m0
          have c10m1 := eq_false (Nat.not_lt.2 c10m0)
          have c10m2 := decide_eq_true c10m0
          clear hc10 c10m0
          replace H := Option.bind_eq_some_iff.mp H
          obtain ⟨t107, A110, H⟩ := H
          replace H : (if (((x3_1 ++ (⟨#[59, 32]⟩ : ByteArray)) ++ ((rd_T50 l0_2 x4_1).f0)) ++ (⟨#[61]⟩ : ByteArray)).size + t107.size ≤ 9223372036854775807 then (broadsheetref13_Print.l0 k1 ((((x3_1 ++ (⟨#[59, 32]⟩ : ByteArray)) ++ ((rd_T50 l0_2 x4_1).f0)) ++ (⟨#[61]⟩ : ByteArray)) ++ t107) (wrap64 (x4_1 + 1)) a0_0 a0_1 l0_2) else (none)) = some r := H
          have A11 := Aside0.mk A110
          clear A110
          by_cases c12 : (((x3_1 ++ (⟨#[59, 32]⟩ : ByteArray)) ++ ((rd_T50 l0_2 x4_1).f0)) ++ (⟨#[61]⟩ : ByteArray)).size + t107.size ≤ 9223372036854775807
          ·rw [if_pos c12] at H
           have c12b0 := eq_true c12
           have c12b1 : decide ((((x3_1 ++ (⟨#[59, 32]⟩ : ByteArray)) ++ ((rd_T50 l0_2 x4_1).f0)) ++ (⟨#[61]⟩ : ByteArray)).size + t107.size ≤ 9223372036854775807) = true := decide_eq_true c12
           try have c12b2 : (9223372036854775807 < (((x3_1 ++ (⟨#[59, 32]⟩ : ByteArray)) ++ ((rd_T50 l0_2 x4_1).f0)) ++ (⟨#[61]⟩ : ByteArray)).size + t107.size) = False := eq_false (Nat.not_lt.2 c12)
           obtain ⟨nc12, hc12⟩ : ∃ n_ : Nat, n_ = (((x3_1 ++ (⟨#[59, 32]⟩ : ByteArray)) ++ ((rd_T50 l0_2 x4_1).f0)) ++ (⟨#[61]⟩ : ByteArray)).size + t107.size := ⟨_, rfl⟩
           have c12m0 : nc12 ≤ 9223372036854775807 := by rw [hc12]; exact c12
           (first | simp [go_sem, c2b0, c3b0, c7b0, c9b0, c10b0] at hc12 | simp [go_sem] at hc12 | skip)
           rw [hc12] at c12m0
           have c12m1 := eq_false (Nat.not_lt.2 c12m0)
           have c12m2 := decide_eq_true c12m0
           clear hc12 c12m0
           have H' := Aside0.mk H
           clear H
           have hcz13_0 : wr.cell? ⟨gb104, 0, none⟩ = some (.string a0_0) := (blk_cell BK104.out 0).trans rfl
           have hcz13_1 : wr.cell? ⟨gb104, 1, none⟩ = some (.string a0_1) := (blk_cell BK104.out 1).trans rfl
           have hcz13_2 : wr.cell? ⟨gb104, 2, none⟩ = some (.slice A0_2 l0_2.length c0_2) := (blk_cell BK104.out 2).trans rfl
           have hfz13_0 := blk_frozen BK104.out 0
           have hfz13_1 := blk_frozen BK104.out 1
           have hfz13_2 := blk_frozen BK104.out 2
           have p105 : 0 ≤ (x4_1 : Int) := of_decide_eq_true zb3
           have q105 : x4_1 < (l0_2.length : Int) := of_decide_eq_true zb3
           obtain ⟨ad105, e105, hx105_0, hx105_1⟩ := at_T50 HR0_2.out x4_1 p105 q105
           cases e105
           replace hx105_0 := (HB.out.cell (World.block_lt_of_cell? w _ hx105_0)).trans hx105_0
           replace hx105_1 := (HB.out.cell (World.block_lt_of_cell? w _ hx105_1)).trans hx105_1
           replace p105 := eq_true p105
           replace q105 := eq_true q105
           have p106 : 0 ≤ (x4_1 : Int) := of_decide_eq_true zb3
           have q106 : x4_1 < (l0_2.length : Int) := of_decide_eq_true zb3
           obtain ⟨ad106, e106, hx106_0, hx106_1⟩ := at_T50 HR0_2.out x4_1 p106 q106
           obtain rfl : ad105 = ad106 := (by injection e106)
           replace hx106_0 := (HB.out.cell (World.block_lt_of_cell? w _ hx106_0)).trans hx106_0
           replace hx106_1 := (HB.out.cell (World.block_lt_of_cell? w _ hx106_1)).trans hx106_1
           replace p106 := eq_true p106
           replace q106 := eq_true q106
           go_wp2_with (first | (go_at_call 26; (with_reducible refine (broadsheetref13_quote.calls k1 ((rd_T50 l0_2 x4_1).f1) t107 _ A11.out).mono ?_); rintro e w' ⟨rfl, ⟨nd, rfl⟩⟩; (try first | exact ⟨rfl, _, World.drewN_drewN _ _ _⟩ | exact ⟨rfl, _, Eq.trans (World.drewN_drewN _ _ _) (congrArg (World.drewN _) (Nat.add_assoc _ _ _))⟩)))
           repeat (go_quiet (first | (go_at_call 26; (with_reducible refine (broadsheetref13_quote.calls k1 ((rd_T50 l0_2 x4_1).f1) t107 _ A11.out).mono ?_); rintro e w' ⟨rfl, ⟨nd, rfl⟩⟩; (try first | exact ⟨rfl, _, World.drewN_drewN _ _ _⟩ | exact ⟨rfl, _, Eq.trans (World.drewN_drewN _ _ _) (congrArg (World.drewN _) (Nat.add_assoc _ _ _))⟩))); try go_wp2_with (first | (go_at_call 26; (with_reducible refine (broadsheetref13_quote.calls k1 ((rd_T50 l0_2 x4_1).f1) t107 _ A11.out).mono ?_); rintro e w' ⟨rfl, ⟨nd, rfl⟩⟩; (try first | exact ⟨rfl, _, World.drewN_drewN _ _ _⟩ | exact ⟨rfl, _, Eq.trans (World.drewN_drewN _ _ _) (congrArg (World.drewN _) (Nat.add_assoc _ _ _))⟩))))
           go_roundg k1
           case measure => have := HK1.out; omega
           case rel => exact ⟨((((x3_1 ++ (⟨#[59, 32]⟩ : ByteArray)) ++ ((rd_T50 l0_2 x4_1).f0)) ++ (⟨#[61]⟩ : ByteArray)) ++ t107), (wrap64 (x4_1 + 1)), zb4, zb4, H', ⟨by have := HK1.out; omega⟩, ⟨by (with_reducible repeat (first | refine blk_drewN ?_ _ | refine blk_drew ?_ | refine blk_alloc ?_ _)); exact BK104.out⟩, ⟨by repeat (first | (with_reducible first | exact HB.out | apply below_alloc | apply pw_below_drewN | apply below_drew1 | refine below_set ?_ GE104.out) | exact HB.out)⟩⟩
          ·rw [if_neg c12] at H
           exact absurd H zb45
         ·rw [if_neg c10] at H
          exact absurd H zb45
        ·rw [if_neg c9] at H
         exact absurd H zb45
       ·rw [if_neg c8] at H
        exact absurd H zb45
      ·rw [if_neg c7] at H
       exact absurd H zb45
     ·rw [if_neg c6] at H
      have c6b0 : decide (x4_1 < (l0_2.length : Int)) = false := decide_eq_false c6
      clear c6
      obtain rfl := Option.some.inj H
      have hcz14_0 : wr.cell? ⟨gb104, 0, none⟩ = some (.string a0_0) := (blk_cell BK104.out 0).trans rfl
      have hcz14_1 : wr.cell? ⟨gb104, 1, none⟩ = some (.string a0_1) := (blk_cell BK104.out 1).trans rfl
      have hcz14_2 : wr.cell? ⟨gb104, 2, none⟩ = some (.slice A0_2 l0_2.length c0_2) := (blk_cell BK104.out 2).trans rfl
      have hfz14_0 := blk_frozen BK104.out 0
      have hfz14_1 := blk_frozen BK104.out 1
      have hfz14_2 := blk_frozen BK104.out 2
      go_wp2
      repeat (go_quiet (fail); try go_wp2)
      go_ret
      exact ⟨zb6, (by repeat (first | (with_reducible first | exact HB.out | apply below_alloc | apply pw_below_drewN | apply below_drew1 | refine below_set ?_ GE104.out) | exact HB.out))⟩
  ·rw [if_neg c3] at H
   exact absurd H zb45
 ·rw [if_neg c2] at H
  exact absurd H zb45
mutual
def broadsheetlaw14_few.l0 : Nat → List (S40) → Int → Option (Bool)
  | 0, _, _ => none
  | k + 1, x0, x3 => if x3 < (x0.length : Int) then (broadsheetlaw14_few.j1 k x0 x3 (decide (x3 ≤ 20))) else (broadsheetlaw14_few.j1 k x0 x3 false)
def broadsheetlaw14_few.j1 : Nat → List (S40) → Int → Bool → Option (Bool)
  | 0, _, _, _ => none
  | k + 1, x0, x3, x11 => if x11 = true then (if 0 ≤ x3 then (if x3 < (x0.length : Int) then ((broadsheetref13_Print.f k ((rd_T40 x0 x3).f0) ((rd_T40 x0 x3).f1) ((rd_T40 x0 x3).f2)).bind fun t109 => (if (t109.size : Int) > 300 then (some false) else (broadsheetlaw14_few.l0 k x0 (wrap64 (x3 + 1))))) else (none)) else (none)) else (some (decide ((x0.length : Int) ≤ 20)))
end
def broadsheetlaw14_few.f (k : Nat) (l0 : List (S40)) : Option (Bool) := broadsheetlaw14_few.l0 k l0 0
set_option maxHeartbeats 8000000 in
set_option maxRecDepth 100000 in
theorem broadsheetlaw14_few.calls (k : Nat) (A0 : Option Addr) (c0 : Nat) (l0 : List (S40)) (r : Bool) (w : World) (hr0 : Kd.C k40 w A0 l0.length l0) (hc0 : l0.length ≤ c0) (h : broadsheetlaw14_few.f k l0 = some r) :
  Calls Tryz.prog 5 #[.slice A0 l0.length c0] w fun e w' => e = .returned (.bool r) ∧ Below w.heap.size w w' := by
 have hu40 := Tryz.underlying40
 have HR0 := Aside0.mk hr0
 have HC0 := Aside0.mk hc0
 clear hr0 hc0
 have HB := Aside0.mk (Below.refl w.heap.size w)
 have H : (broadsheetlaw14_few.l0 k l0 0) = some r := h
 clear h
 have H' := Aside0.mk H
 clear H
 go_enter Tryz.func5, Tryz.ntmps5
 go_wp2
 first | go_loopg [3] k (fun kq v3 w' => ∃ (x3_1 : Int), v3 = .int .i64 x3_1 ∧ Aside0 (broadsheetlaw14_few.l0 kq l0 x3_1 = some r) ∧ Aside0 (kq ≤ k) ∧ Aside0 (Below w.heap.size w w')) | (go_simp; go_loopg [3] k (fun kq v3 w' => ∃ (x3_1 : Int), v3 = .int .i64 x3_1 ∧ Aside0 (broadsheetlaw14_few.l0 kq l0 x3_1 = some r) ∧ Aside0 (kq ≤ k) ∧ Aside0 (Below w.heap.size w w')))
 case atStart => exact ⟨(0), zb4, H', ⟨Nat.le_refl _⟩, ⟨by repeat (first | (with_reducible first | exact HB.out | apply below_alloc | apply pw_below_drewN | apply below_drew1) | exact HB.out)⟩⟩
 case round =>
  clear H'
  obtain ⟨x3_1, rfl, HA, HK1, HB⟩ := hrel
  cases gk with
  | zero => exact absurd HA.out (by simp [broadsheetlaw14_few.l0])
  | succ k1 =>
   have H := HA.out
   clear HA
   simp only [broadsheetlaw14_few.l0] at H
   have HC2 := Aside0.mk H
   clear H
   go_upto_region 2 with (fail)
   go_cut [11] (fun v11 wc => ∃ (kq : Nat) (x11_1 : Bool), v11 = .bool x11_1 ∧ Aside0 (broadsheetlaw14_few.j1 kq l0 x3_1 x11_1 = some r) ∧ Aside0 (kq ≤ k1) ∧ Aside0 (Below w.heap.size w wc))
   case first =>
    have H := HC2.out
    clear HC2
    by_cases c3 : x3_1 < (l0.length : Int)
    ·rw [if_pos c3] at H
     have c3b0 : decide (x3_1 < (l0.length : Int)) = true := decide_eq_true c3
     clear c3
     (first | rw [c3b0] | (simp only [i64_w, i32_w]; rw [c3b0]) | skip)
     have H' := Aside0.mk H
     clear H
     go_wp2
     go_meet
     case rel => exact ⟨_, (decide (x3_1 ≤ 20)), zb4, H', ⟨by have := HK1.out; first | omega | exact Nat.le_refl _⟩, ⟨by repeat (first | (with_reducible first | exact HB.out | apply below_alloc | apply pw_below_drewN | apply below_drew1) | exact HB.out)⟩⟩
    ·rw [if_neg c3] at H
     have c3b0 : decide (x3_1 < (l0.length : Int)) = false := decide_eq_false c3
     clear c3
     (first | rw [c3b0] | (simp only [i64_w, i32_w]; rw [c3b0]) | skip)
     have H' := Aside0.mk H
     clear H
     go_wp2
     go_meet
     case rel => exact ⟨_, (false), zb4, H', ⟨by have := HK1.out; first | omega | exact Nat.le_refl _⟩, ⟨by repeat (first | (with_reducible first | exact HB.out | apply below_alloc | apply pw_below_drewN | apply below_drew1) | exact HB.out)⟩⟩
   case rest =>
    clear HC2
    try clear p2
    try clear c3
    try clear c3b0
    obtain ⟨kq, x11_1, rfl, HA, HJ1, HB⟩ := hcut
    cases kq with
    | zero => exact absurd HA.out (by simp [broadsheetlaw14_few.j1])
    | succ kj1 =>
     have H := HA.out
     clear HA
     simp only [broadsheetlaw14_few.j1] at H
     by_cases c4 : x11_1 = true
     ·subst c4
      replace H : (if 0 ≤ x3_1 then (if x3_1 < (l0.length : Int) then ((broadsheetref13_Print.f kj1 ((rd_T40 l0 x3_1).f0) ((rd_T40 l0 x3_1).f1) ((rd_T40 l0 x3_1).f2)).bind fun t109 => (if (t109.size : Int) > 300 then (some false) else (broadsheetlaw14_few.l0 kj1 l0 (wrap64 (x3_1 + 1))))) else (none)) else (none)) = some r := by rw [if_pos rfl] at H; exact H
      by_cases c5 : 0 ≤ x3_1
      ·rw [if_pos c5] at H
       have c5b0 : decide (0 ≤ x3_1) = true := decide_eq_true c5
       clear c5
       by_cases c6 : x3_1 < (l0.length : Int)
       ·rw [if_pos c6] at H
        have c6b0 : decide (x3_1 < (l0.length : Int)) = true := decide_eq_true c6
        clear c6
        replace H := Option.bind_eq_some_iff.mp H
        obtain ⟨t109, A70, H⟩ := H
        replace H : (if (t109.size : Int) > 300 then (some false) else (broadsheetlaw14_few.l0 kj1 l0 (wrap64 (x3_1 + 1)))) = some r := H
        have A7 := Aside0.mk A70
        clear A70
        by_cases c8 : (t109.size : Int) > 300
        ·rw [if_pos c8] at H
         have c8b0 : decide (300 < (t109.size : Int)) = true := decide_eq_true c8
         have c8b1 : decide (300 < t109.size) = true := decide_eq_true zb42
         clear c8
         obtain rfl := Option.some.inj H
         have p108 : 0 ≤ (x3_1 : Int) := of_decide_eq_true zb3
         have q108 : x3_1 < (l0.length : Int) := of_decide_eq_true zb3
         obtain ⟨ad108, A108_2, c108_2, e108, hx108_0, hx108_1, hx108_2, hl108_2, hi108_2⟩ := at_T40 HR0.out x3_1 p108 q108
         cases e108
         replace hx108_0 := (HB.out.cell (World.block_lt_of_cell? w _ hx108_0)).trans hx108_0
         replace hx108_1 := (HB.out.cell (World.block_lt_of_cell? w _ hx108_1)).trans hx108_1
         replace hx108_2 := (HB.out.cell (World.block_lt_of_cell? w _ hx108_2)).trans hx108_2
         have HR108_2 := Aside0.mk hi108_2
         have HC108_2 := Aside0.mk hl108_2
         clear hi108_2 hl108_2
         replace p108 := eq_true p108
         replace q108 := eq_true q108
         go_wp2_with (first | ((with_reducible refine gate_callee (f := 15) rfl ?_); refine goesL_ (some 18) rfl rfl Tryz.func15 zb9 rfl #[.agg #[.string ((rd_T40 l0 x3_1).f0), .string ((rd_T40 l0 x3_1).f1), .slice A108_2 ((rd_T40 l0 x3_1).f2).length c108_2]] rfl zb2 ?_; (with_reducible refine (broadsheetref13_Print.calls kj1 ((rd_T40 l0 x3_1).f0) ((rd_T40 l0 x3_1).f1) _ _ ((rd_T40 l0 x3_1).f2) t109 _ ?side1 ?side2 A7.out).mono ?_); (case side1 => repeat (first | exact (Kd.C_below HR108_2.out HB.out) | (with_reducible refine Kd.C_alloc ?_ _) | (with_reducible refine Kd.C_drewN ?_ _) | (with_reducible refine Kd.C_drew ?_))); (case side2 => exact HC108_2.out); rintro e w9 ⟨rfl, hb⟩; refine ⟨_, rfl, ?_⟩; have n0_ := Aside0.mk (below_step zb0 hb); clear HB; have HB := n0_; clear n0_; (try clear hb); (try clear hb2); (try clear hk); (try clear hi)))
         go_ret
         exact ⟨zb6, zb0⟩
        ·rw [if_neg c8] at H
         have c8b0 : decide (300 < (t109.size : Int)) = false := decide_eq_false c8
         have c8b1 : decide (300 < t109.size) = false := decide_eq_false zb42
         clear c8
         have H' := Aside0.mk H
         clear H
         have p108 : 0 ≤ (x3_1 : Int) := of_decide_eq_true zb3
         have q108 : x3_1 < (l0.length : Int) := of_decide_eq_true zb3
         obtain ⟨ad108, A108_2, c108_2, e108, hx108_0, hx108_1, hx108_2, hl108_2, hi108_2⟩ := at_T40 HR0.out x3_1 p108 q108
         cases e108
         replace hx108_0 := (HB.out.cell (World.block_lt_of_cell? w _ hx108_0)).trans hx108_0
         replace hx108_1 := (HB.out.cell (World.block_lt_of_cell? w _ hx108_1)).trans hx108_1
         replace hx108_2 := (HB.out.cell (World.block_lt_of_cell? w _ hx108_2)).trans hx108_2
         have HR108_2 := Aside0.mk hi108_2
         have HC108_2 := Aside0.mk hl108_2
         clear hi108_2 hl108_2
         replace p108 := eq_true p108
         replace q108 := eq_true q108
         go_wp2_with (first | ((with_reducible refine gate_callee (f := 15) rfl ?_); refine goesL_ (some 18) rfl rfl Tryz.func15 zb9 rfl #[.agg #[.string ((rd_T40 l0 x3_1).f0), .string ((rd_T40 l0 x3_1).f1), .slice A108_2 ((rd_T40 l0 x3_1).f2).length c108_2]] rfl zb2 ?_; (with_reducible refine (broadsheetref13_Print.calls kj1 ((rd_T40 l0 x3_1).f0) ((rd_T40 l0 x3_1).f1) _ _ ((rd_T40 l0 x3_1).f2) t109 _ ?side1 ?side2 A7.out).mono ?_); (case side1 => repeat (first | exact (Kd.C_below HR108_2.out HB.out) | (with_reducible refine Kd.C_alloc ?_ _) | (with_reducible refine Kd.C_drewN ?_ _) | (with_reducible refine Kd.C_drew ?_))); (case side2 => exact HC108_2.out); rintro e w10 ⟨rfl, hb⟩; refine ⟨_, rfl, ?_⟩; have n0_ := Aside0.mk (below_step zb0 hb); clear HB; have HB := n0_; clear n0_; (try clear hb); (try clear hb2); (try clear hk); (try clear hi)))
         go_roundg kj1
         case measure => have := HK1.out; have := HJ1.out; omega
         case rel => exact ⟨(wrap64 (x3_1 + 1)), zb4, H', ⟨by have := HK1.out; have := HJ1.out; omega⟩, ⟨by repeat (first | (with_reducible first | exact HB.out | apply below_alloc | apply pw_below_drewN | apply below_drew1) | exact HB.out)⟩⟩
       ·rw [if_neg c6] at H
        exact absurd H zb45
      ·rw [if_neg c5] at H
       exact absurd H zb45
     ·replace c4 := Bool.eq_false_iff.mpr c4
      subst c4
      replace H : (some (decide ((l0.length : Int) ≤ 20))) = some r := by rw [if_neg (show ¬ (false = true) by decide)] at H; exact H
      obtain rfl := Option.some.inj H
      go_wp2
      go_ret
      exact ⟨zb6, zb0⟩
end Go.Proofs.YtghfbhobpodoeaaGreatDoor.P
