/- Texts of this seat, joined: lemmas and walks that its statements' proofs use. -/
import Derived.Test.YteonhdfjfjpbjaaGreatDoorK1
import Derived.Test.YteonhdfjfjpbjaaGreatDoorK3
import Derived.Test.YteonhdfjfjpbjaaGreatDoorK2
/- Oslw -/
namespace Go.Proofs.YteonhdfjfjpbjaaGreatDoor.O
open Go.RowKit Go.Proofs.YteonhdfjfjpbjaaGreatDoorW.PrintWords Go.Proofs.YteonhdfjfjpbjaaGreatDoorW.PrintLast Go.Proofs.YteonhdfjfjpbjaaGreatDoorW.PrintMore Go.Proofs.YteonhdfjfjpbjaaGreatDoor.P
set_option linter.unusedVariables false
set_option linter.unusedSimpArgs false
def slI (c : Int) : Bool := decide (97 ≤ c) && decide (c ≤ 122) || decide (48 ≤ c) && decide (c ≤ 57)
def dash (o : List Int) (gap : Bool) : List Int := if gap = true ∧ o.length < 19 then o ++ [45] else o
def sgL : List Int → List Int → Bool → List Int
  | [], o, _ => o
  | c :: r, o, gap => if slI c = true then (if (dash o gap).length = 20 then dash o gap else sgL r (dash o gap ++ [c]) false) else sgL r o (decide (0 < o.length))
def btl (s : ByteArray) : List Int := (List.range s.size).map fun (j : Nat) => bt s j
theorem btl_drop (s : ByteArray) (k : Nat) (h : k < s.size) : (btl s).drop k = bt s k :: (btl s).drop (k + 1) := by
  have hl : k < (btl s).length := by simp [btl]; exact h
  rw [List.drop_eq_getElem_cons hl]
  congr 1
  simp [btl]
def Bytes (W : World) (D : Nat) (s : ByteArray) : Prop := D < W.heap.size ∧ ∀ j : Nat, j < s.size → W.cell? ⟨D, j, none⟩ = some (.int .u8 (bt s j))
theorem Bytes.keep {W W' : World} {D : Nat} {s : ByteArray} (h : Bytes W D s) (he : W'.heap[D]? = W.heap[D]?) (hs : W.heap.size ≤ W'.heap.size) : Bytes W' D s := ⟨Nat.lt_of_lt_of_le h.1 hs, fun j hj => (World.cell?_of_block (w := W) (a := ⟨D, j, none⟩) he).trans (h.2 j hj)⟩
theorem u8_new (w : World) : Kd.R (Kd.int .u8) 5 (w.alloc (.cells #[] 5)) w.heap.size (fun _ => True) (.slice (some ⟨w.heap.size, 0, none⟩) 0 0) [] := by
  refine Kd.R_of_own ?_ (fun _ _ => trivial)
  have h2 := World.ownsRow_lit (base := w.heap.size) (e := 5) (size := 1) w (#[] : Array Value) 0 (Nat.le_refl _) (by simp [maxLen]) zb26
  simpa [encs] using h2
set_option maxHeartbeats 4000000 in
theorem slug_in (k : Nat) (a0 p lo : ByteArray) (ok : Bool) (w : World) (hG : Glob w) (hp : request_Percent.f k a0 = some (p, ok)) (hl : media_Small.f (if ok = true then p else a0) = some lo) (hsz : lo.size ≤ 1000000) :
    Calls Tryz.prog 22 #[.string a0] w fun e w' => e = .returned (.string (strOfNums (sgL (btl lo) [] false))) ∧ Below w.heap.size w w' := by
  have HP := Lib.hid (request_Percent.calls k a0 p ok w hG hp)
  clear hp
  obtain ⟨F, hF⟩ : ∃ F, F = sgL (btl lo) [] false := ⟨_, rfl⟩
  rw [← hF]
  replace hF := Lib.hid hF
  obtain ⟨q, hq⟩ : ∃ q, q = if ok = true then p else a0 := ⟨_, rfl⟩
  rw [← hq] at hl
  have HS := Lib.hid (fun W => media_Small.calls q lo W hl)
  clear hl
  cases ok with
  | true =>
    obtain rfl : q = p := by simpa using hq
    clear hq
    go_enter Tryz.func22, Tryz.ntmps22
    go_wp2_with (first | (go_at_call 20; (refine HP.out.mono ?_; rintro e w1 ⟨rfl, hb1⟩)) | (go_at_call 50; (refine (HS.out _).mono ?_; rintro e w2 ⟨rfl, hb2⟩; have hB := Lib.hid (below_step (below_step hb1 (below_alloc (Below.refl _ _) _)) hb2); have hconv := Lib.run_convert_string_bytes (P := Tryz.prog) w2 9 23 5 lo Tryz.underlying9 Tryz.underlying23 Tryz.underlying5; have hb23 := Lib.hid (below_bytes w2 5 lo); have hb3 := Lib.hid (below_step hB.out (below_bytes w2 5 lo)); have hcell := Lib.hid (fun j hj => Lib.bytesWorld_cell w2 5 lo j hj); have hlt0 : Hid (w2.heap.size < (Lib.bytesWorld w2 5 lo).heap.size) := Lib.hid (by rw [Lib.bytesWorld_size]; omega); generalize Lib.bytesWorld w2 5 lo = w3 at *; generalize grownCap w2 lo.size 0 5 = cap at *)))
    go_loopw [5, 6, 21] (fun v5 v6 i wr => ∃ (j : Nat) (o : List Int) (gap : Bool), j ≤ lo.size ∧ v6 = .bool gap ∧ i = .int .i64 j ∧ Hid (sgL ((btl lo).drop j) o gap = F) ∧ Hid (o.length ≤ 20) ∧ Hid (Kd.R (Kd.int .u8) 5 wr w.heap.size (fun b => b ≠ w2.heap.size) v5 o) ∧ Hid (Bytes wr w2.heap.size lo) ∧ Hid (Below w.heap.size w wr)) (fun _ _ i _ => lo.size - (intOf i).toNat)
    case atStart =>
      refine ⟨0, [], false, Nat.zero_le _, rfl, rfl, hF.out.symm ▸ Lib.hid rfl, Lib.hid zb26, Lib.hid ?_, Lib.hid ⟨hlt0.out, fun j hj => by rw [hcell.out j hj, bt_getD lo j hj]⟩, hb3⟩
      have h1 := Kd.R_bound (u8_new w1)
      have h2 := Kd.R_below (Kd.R_below h1 hb2) hb23.out
      exact Kd.R_lower (Kd.R_mono h2 (fun k hk => by have := hk.2.2.1; have := hb2.size; omega)) hb1.size
    case round =>
      obtain ⟨j, o, gap, hj, rfl, rfl, hS, hlen, hR, hBy, hBl⟩ := hrel
      obtain ⟨A, cp, rfl⟩ := Kd.R_slice hR.out
      by_cases hlt : j < lo.size
      · have hS' := hS.out
        rw [btl_drop lo j hlt, sgL] at hS'
        have hc := hBy.out.2 j hlt
        obtain ⟨q1, q2⟩ := bt_range lo j
        clear hS
        generalize bt lo j = c at *
        by_cases hlet : slI c = true
        · rw [if_pos hlet] at hS'
          by_cases hgp : gap = true
          · subst hgp
            by_cases hl19 : o.length < 19
            · rw [show dash o true = o ++ [45] from if_pos ⟨rfl, hl19⟩, if_neg (by rw [List.length_append, List.length_singleton]; omega)] at hS'
              replace hS' := Lib.hid hS'
              have h20 := Lib.hid hl19
              have hl19' : (o.length : Int) < 19 := by omega
              obtain ⟨o1, ho1⟩ : ∃ o1, o1 = o ++ [45] := ⟨_, rfl⟩
              rw [← ho1] at hS'
              have hl1 : o1.length = o.length + 1 := by rw [ho1, List.length_append, List.length_singleton]
              have h20' : ((o1.length : Int) == 20) = false := by simp; omega
              have hlen1 := Lib.hid (show o1.length ≤ 20 by omega)
              replace ho1 := Lib.hid ho1
              replace hl1 := Lib.hid hl1
              clear hl19
              unfold slI at hlet
              by_cases u1 : 97 ≤ c
              · have u2 : c ≤ 122 := by simp at hlet; omega
                clear hlet
                go_wp2_with (first | ((with_reducible refine gate_builtin (b := .append) (xs := #[.tmp 49, .tmp 50]) rfl ?_); at_builtin; (refine Kd.R_append (Kd.int .u8) (w0 := w) w.heap.size rfl (.tmp 49) (.tmp 50) 23 5 (.int .u8 0) 1 rfl Tryz.underlying23 info5 rfl zb20 zb16 (.slice A o.length cp) o 45 [.int .u8 45] (fun b => b ≠ w2.heap.size) (fun _ => False) rfl rfl ?aP (fun _ hk => hk.elim) ?aF ?aO ?aB ?aS ?aL ?_; (case aP => exact rfl); (case aB => exact hBl.out); (case aF => exact (fun k hk => by have := hBy.out.1; (try simp only [World.size_alloc] at hk); omega)); (case aO => exact hR.out); (case aS => exact below_size hBl.out); (case aL => have := hlen.out; (try simp only [List.length_append, List.length_singleton]); omega); intro v1 w4 ho hb hg hat; rw [← ho1.out] at ho; obtain ⟨A1, c1, rfl⟩ := Kd.R_slice ho; have hR1 := Lib.hid ho; have hBl1 := Lib.hid hb; have hBy1 := Lib.hid (hBy.out.keep (hg.block _ hBy.out.1 (Kd.R_away hR.out (fun k hk => hk))) hg.size); clear ho hb hg hat)) | ((with_reducible refine gate_builtin (b := .append) (xs := #[.tmp 55, .tmp 57]) rfl ?_); at_builtin; (refine Kd.R_append (Kd.int .u8) (w0 := w) w.heap.size rfl (.tmp 55) (.tmp 57) 23 5 (.int .u8 0) 1 rfl Tryz.underlying23 info5 rfl zb20 zb16 (.slice A1 o1.length c1) o1 c [.int .u8 c] (fun b => b ≠ w2.heap.size) (fun _ => False) rfl rfl ?aP (fun _ hk => hk.elim) ?aF ?aO ?aB ?aS ?aL ?_; (case aP => exact rfl); (case aB => exact hBl1.out); (case aF => exact (fun k hk => by have := hBy1.out.1; (try simp only [World.size_alloc] at hk); omega)); (case aO => exact hR1.out); (case aS => exact below_size hBl1.out); (case aL => have := hlen1.out; (try simp only [List.length_append, List.length_singleton]); omega); intro v2 w5 ho hb hg hat; have hR2 := Lib.hid ho; have hBl2 := Lib.hid hb; have hBy2 := Lib.hid (hBy1.out.keep (hg.block _ hBy1.out.1 (Kd.R_away hR1.out (fun k hk => hk))) hg.size); clear ho hb hg hat)))
                go_roundw
                case rel => exact ⟨j + 1, (o1 ++ [c]), false, by omega, rfl, by go_num, Lib.hid zb46, Lib.hid zb42, hR2, hBy2, hBl2⟩
                case measure => simp [intOf]; omega
              · have u3 : 48 ≤ c := by simp at hlet; omega
                have u4 : c ≤ 57 := by simp at hlet; omega
                clear hlet
                go_wp2_with (first | ((with_reducible refine gate_builtin (b := .append) (xs := #[.tmp 49, .tmp 50]) rfl ?_); at_builtin; (refine Kd.R_append (Kd.int .u8) (w0 := w) w.heap.size rfl (.tmp 49) (.tmp 50) 23 5 (.int .u8 0) 1 rfl Tryz.underlying23 info5 rfl zb20 zb16 (.slice A o.length cp) o 45 [.int .u8 45] (fun b => b ≠ w2.heap.size) (fun _ => False) rfl rfl ?aP (fun _ hk => hk.elim) ?aF ?aO ?aB ?aS ?aL ?_; (case aP => exact rfl); (case aB => exact hBl.out); (case aF => exact (fun k hk => by have := hBy.out.1; (try simp only [World.size_alloc] at hk); omega)); (case aO => exact hR.out); (case aS => exact below_size hBl.out); (case aL => have := hlen.out; (try simp only [List.length_append, List.length_singleton]); omega); intro v1 w4 ho hb hg hat; rw [← ho1.out] at ho; obtain ⟨A1, c1, rfl⟩ := Kd.R_slice ho; have hR1 := Lib.hid ho; have hBl1 := Lib.hid hb; have hBy1 := Lib.hid (hBy.out.keep (hg.block _ hBy.out.1 (Kd.R_away hR.out (fun k hk => hk))) hg.size); clear ho hb hg hat)) | ((with_reducible refine gate_builtin (b := .append) (xs := #[.tmp 55, .tmp 57]) rfl ?_); at_builtin; (refine Kd.R_append (Kd.int .u8) (w0 := w) w.heap.size rfl (.tmp 55) (.tmp 57) 23 5 (.int .u8 0) 1 rfl Tryz.underlying23 info5 rfl zb20 zb16 (.slice A1 o1.length c1) o1 c [.int .u8 c] (fun b => b ≠ w2.heap.size) (fun _ => False) rfl rfl ?aP (fun _ hk => hk.elim) ?aF ?aO ?aB ?aS ?aL ?_; (case aP => exact rfl); (case aB => exact hBl1.out); (case aF => exact (fun k hk => by have := hBy1.out.1; (try simp only [World.size_alloc] at hk); omega)); (case aO => exact hR1.out); (case aS => exact below_size hBl1.out); (case aL => have := hlen1.out; (try simp only [List.length_append, List.length_singleton]); omega); intro v2 w5 ho hb hg hat; have hR2 := Lib.hid ho; have hBl2 := Lib.hid hb; have hBy2 := Lib.hid (hBy1.out.keep (hg.block _ hBy1.out.1 (Kd.R_away hR1.out (fun k hk => hk))) hg.size); clear ho hb hg hat)))
                go_roundw
                case rel => exact ⟨j + 1, (o1 ++ [c]), false, by omega, rfl, by go_num, Lib.hid zb46, Lib.hid zb42, hR2, hBy2, hBl2⟩
                case measure => simp [intOf]; omega
            · rw [show dash o true = o from if_neg (fun h => hl19 h.2)] at hS'
              have hl19' : ¬ (o.length : Int) < 19 := by omega
              clear hl19
              by_cases hl20 : o.length = 20
              · rw [if_pos hl20] at hS'
                have hl20' : ((o.length : Int) == 20) = true := by simp; omega
                clear hl20
                unfold slI at hlet
                by_cases u1 : 97 ≤ c
                · have u2 : c ≤ 122 := by simp at hlet; omega
                  clear hlet
                  have hconv2 : (convert 23 9 (.slice A o.length cp)).run Tryz.prog wr = .ok (.string (strOfNums o)) wr := Kd.C_string Tryz.underlying23 Tryz.underlying5 Tryz.underlying9 (Kd.R_reads' hR.out).2.2
                  obtain ⟨out, hout⟩ : ∃ x, x = strOfNums o := ⟨_, rfl⟩
                  rw [← hout] at hconv2
                  have hout' := Lib.hid (hout.trans (congrArg strOfNums hS'))
                  clear hout hS'
                  go_wp2
                  go_ret
                  exact ⟨ret_str hout'.out, hBl.out⟩
                · have u3 : 48 ≤ c := by simp at hlet; omega
                  have u4 : c ≤ 57 := by simp at hlet; omega
                  clear hlet
                  have hconv2 : (convert 23 9 (.slice A o.length cp)).run Tryz.prog wr = .ok (.string (strOfNums o)) wr := Kd.C_string Tryz.underlying23 Tryz.underlying5 Tryz.underlying9 (Kd.R_reads' hR.out).2.2
                  obtain ⟨out, hout⟩ : ∃ x, x = strOfNums o := ⟨_, rfl⟩
                  rw [← hout] at hconv2
                  have hout' := Lib.hid (hout.trans (congrArg strOfNums hS'))
                  clear hout hS'
                  go_wp2
                  go_ret
                  exact ⟨ret_str hout'.out, hBl.out⟩
              · rw [if_neg hl20] at hS'
                replace hS' := Lib.hid hS'
                have h20 := Lib.hid (show o.length < 20 by have := hlen.out; omega)
                have hl20' : ((o.length : Int) == 20) = false := by simp; omega
                clear hl20
                unfold slI at hlet
                by_cases u1 : 97 ≤ c
                · have u2 : c ≤ 122 := by simp at hlet; omega
                  clear hlet
                  go_wp2_with ((with_reducible refine gate_builtin (b := .append) (xs := #[.tmp 55, .tmp 57]) rfl ?_); at_builtin; (refine Kd.R_append (Kd.int .u8) (w0 := w) w.heap.size rfl (.tmp 55) (.tmp 57) 23 5 (.int .u8 0) 1 rfl Tryz.underlying23 info5 rfl zb20 zb16 (.slice A o.length cp) o c [.int .u8 c] (fun b => b ≠ w2.heap.size) (fun _ => False) rfl rfl ?aP (fun _ hk => hk.elim) ?aF ?aO ?aB ?aS ?aL ?_; (case aP => exact rfl); (case aB => exact hBl.out); (case aF => exact (fun k hk => by have := hBy.out.1; (try simp only [World.size_alloc] at hk); omega)); (case aO => exact hR.out); (case aS => exact below_size hBl.out); (case aL => have := hlen.out; (try simp only [List.length_append, List.length_singleton]); omega); intro v2 w5 ho hb hg hat; have hR2 := Lib.hid ho; have hBl2 := Lib.hid hb; have hBy2 := Lib.hid (hBy.out.keep (hg.block _ hBy.out.1 (Kd.R_away hR.out (fun k hk => hk))) hg.size); clear ho hb hg hat))
                  go_roundw
                  case rel => exact ⟨j + 1, (o ++ [c]), false, by omega, rfl, by go_num, Lib.hid zb46, Lib.hid zb27, hR2, hBy2, hBl2⟩
                  case measure => simp [intOf]; omega
                · have u3 : 48 ≤ c := by simp at hlet; omega
                  have u4 : c ≤ 57 := by simp at hlet; omega
                  clear hlet
                  go_wp2_with ((with_reducible refine gate_builtin (b := .append) (xs := #[.tmp 55, .tmp 57]) rfl ?_); at_builtin; (refine Kd.R_append (Kd.int .u8) (w0 := w) w.heap.size rfl (.tmp 55) (.tmp 57) 23 5 (.int .u8 0) 1 rfl Tryz.underlying23 info5 rfl zb20 zb16 (.slice A o.length cp) o c [.int .u8 c] (fun b => b ≠ w2.heap.size) (fun _ => False) rfl rfl ?aP (fun _ hk => hk.elim) ?aF ?aO ?aB ?aS ?aL ?_; (case aP => exact rfl); (case aB => exact hBl.out); (case aF => exact (fun k hk => by have := hBy.out.1; (try simp only [World.size_alloc] at hk); omega)); (case aO => exact hR.out); (case aS => exact below_size hBl.out); (case aL => have := hlen.out; (try simp only [List.length_append, List.length_singleton]); omega); intro v2 w5 ho hb hg hat; have hR2 := Lib.hid ho; have hBl2 := Lib.hid hb; have hBy2 := Lib.hid (hBy.out.keep (hg.block _ hBy.out.1 (Kd.R_away hR.out (fun k hk => hk))) hg.size); clear ho hb hg hat))
                  go_roundw
                  case rel => exact ⟨j + 1, (o ++ [c]), false, by omega, rfl, by go_num, Lib.hid zb46, Lib.hid zb27, hR2, hBy2, hBl2⟩
                  case measure => simp [intOf]; omega
          · obtain rfl : gap = false := by simpa using hgp
            clear hgp
            rw [show dash o false = o from if_neg (fun h => absurd h.1 zb20)] at hS'
            by_cases hl20 : o.length = 20
            · rw [if_pos hl20] at hS'
              have hl20' : ((o.length : Int) == 20) = true := by simp; omega
              clear hl20
              unfold slI at hlet
              by_cases u1 : 97 ≤ c
              · have u2 : c ≤ 122 := by simp at hlet; omega
                clear hlet
                have hconv2 : (convert 23 9 (.slice A o.length cp)).run Tryz.prog wr = .ok (.string (strOfNums o)) wr := Kd.C_string Tryz.underlying23 Tryz.underlying5 Tryz.underlying9 (Kd.R_reads' hR.out).2.2
                obtain ⟨out, hout⟩ : ∃ x, x = strOfNums o := ⟨_, rfl⟩
                rw [← hout] at hconv2
                have hout' := Lib.hid (hout.trans (congrArg strOfNums hS'))
                clear hout hS'
                go_wp2
                go_ret
                exact ⟨ret_str hout'.out, hBl.out⟩
              · have u3 : 48 ≤ c := by simp at hlet; omega
                have u4 : c ≤ 57 := by simp at hlet; omega
                clear hlet
                have hconv2 : (convert 23 9 (.slice A o.length cp)).run Tryz.prog wr = .ok (.string (strOfNums o)) wr := Kd.C_string Tryz.underlying23 Tryz.underlying5 Tryz.underlying9 (Kd.R_reads' hR.out).2.2
                obtain ⟨out, hout⟩ : ∃ x, x = strOfNums o := ⟨_, rfl⟩
                rw [← hout] at hconv2
                have hout' := Lib.hid (hout.trans (congrArg strOfNums hS'))
                clear hout hS'
                go_wp2
                go_ret
                exact ⟨ret_str hout'.out, hBl.out⟩
            · rw [if_neg hl20] at hS'
              replace hS' := Lib.hid hS'
              have h20 := Lib.hid (show o.length < 20 by have := hlen.out; omega)
              have hl20' : ((o.length : Int) == 20) = false := by simp; omega
              clear hl20
              unfold slI at hlet
              by_cases u1 : 97 ≤ c
              · have u2 : c ≤ 122 := by simp at hlet; omega
                clear hlet
                go_wp2_with ((with_reducible refine gate_builtin (b := .append) (xs := #[.tmp 55, .tmp 57]) rfl ?_); at_builtin; (refine Kd.R_append (Kd.int .u8) (w0 := w) w.heap.size rfl (.tmp 55) (.tmp 57) 23 5 (.int .u8 0) 1 rfl Tryz.underlying23 info5 rfl zb20 zb16 (.slice A o.length cp) o c [.int .u8 c] (fun b => b ≠ w2.heap.size) (fun _ => False) rfl rfl ?aP (fun _ hk => hk.elim) ?aF ?aO ?aB ?aS ?aL ?_; (case aP => exact rfl); (case aB => exact hBl.out); (case aF => exact (fun k hk => by have := hBy.out.1; (try simp only [World.size_alloc] at hk); omega)); (case aO => exact hR.out); (case aS => exact below_size hBl.out); (case aL => have := hlen.out; (try simp only [List.length_append, List.length_singleton]); omega); intro v2 w5 ho hb hg hat; have hR2 := Lib.hid ho; have hBl2 := Lib.hid hb; have hBy2 := Lib.hid (hBy.out.keep (hg.block _ hBy.out.1 (Kd.R_away hR.out (fun k hk => hk))) hg.size); clear ho hb hg hat))
                go_roundw
                case rel => exact ⟨j + 1, (o ++ [c]), false, by omega, rfl, by go_num, Lib.hid zb46, Lib.hid zb27, hR2, hBy2, hBl2⟩
                case measure => simp [intOf]; omega
              · have u3 : 48 ≤ c := by simp at hlet; omega
                have u4 : c ≤ 57 := by simp at hlet; omega
                clear hlet
                go_wp2_with ((with_reducible refine gate_builtin (b := .append) (xs := #[.tmp 55, .tmp 57]) rfl ?_); at_builtin; (refine Kd.R_append (Kd.int .u8) (w0 := w) w.heap.size rfl (.tmp 55) (.tmp 57) 23 5 (.int .u8 0) 1 rfl Tryz.underlying23 info5 rfl zb20 zb16 (.slice A o.length cp) o c [.int .u8 c] (fun b => b ≠ w2.heap.size) (fun _ => False) rfl rfl ?aP (fun _ hk => hk.elim) ?aF ?aO ?aB ?aS ?aL ?_; (case aP => exact rfl); (case aB => exact hBl.out); (case aF => exact (fun k hk => by have := hBy.out.1; (try simp only [World.size_alloc] at hk); omega)); (case aO => exact hR.out); (case aS => exact below_size hBl.out); (case aL => have := hlen.out; (try simp only [List.length_append, List.length_singleton]); omega); intro v2 w5 ho hb hg hat; have hR2 := Lib.hid ho; have hBl2 := Lib.hid hb; have hBy2 := Lib.hid (hBy.out.keep (hg.block _ hBy.out.1 (Kd.R_away hR.out (fun k hk => hk))) hg.size); clear ho hb hg hat))
                go_roundw
                case rel => exact ⟨j + 1, (o ++ [c]), false, by omega, rfl, by go_num, Lib.hid zb46, Lib.hid zb27, hR2, hBy2, hBl2⟩
                case measure => simp [intOf]; omega
        · rw [if_neg hlet] at hS'
          replace hS' := Lib.hid hS'
          unfold slI at hlet
          by_cases u1 : 97 ≤ c
          · have u2 : ¬ c ≤ 122 := by simp at hlet; omega
            have u3 : 48 ≤ c := by omega
            have u4 : ¬ c ≤ 57 := by omega
            clear hlet
            go_wp2
            go_roundw
            case rel => exact ⟨j + 1, o, _, by omega, rfl, by go_num, Lib.hid zb46, hlen, hR, hBy, hBl⟩
            case measure => simp [intOf]; omega
          · by_cases u3 : 48 ≤ c
            · have u4 : ¬ c ≤ 57 := by simp at hlet; omega
              clear hlet
              go_wp2
              go_roundw
              case rel => exact ⟨j + 1, o, _, by omega, rfl, by go_num, Lib.hid zb46, hlen, hR, hBy, hBl⟩
              case measure => simp [intOf]; omega
            · clear hlet
              go_wp2
              go_roundw
              case rel => exact ⟨j + 1, o, _, by omega, rfl, by go_num, Lib.hid zb46, hlen, hR, hBy, hBl⟩
              case measure => simp [intOf]; omega
      · obtain rfl : j = lo.size := by omega
        have hS' := hS.out
        rw [List.drop_eq_nil_of_le (by simp [btl])] at hS'
        rw [sgL] at hS'
        have hconv2 : (convert 23 9 (.slice A o.length cp)).run Tryz.prog wr = .ok (.string (strOfNums o)) wr := Kd.C_string Tryz.underlying23 Tryz.underlying5 Tryz.underlying9 (Kd.R_reads' hR.out).2.2
        obtain ⟨out, hout⟩ : ∃ x, x = strOfNums o := ⟨_, rfl⟩
        rw [← hout] at hconv2
        have hout' := Lib.hid (hout.trans (congrArg strOfNums hS'))
        clear hout hS' hS
        go_wp2
        go_ret
        exact ⟨ret_str hout'.out, hBl.out⟩
  | false =>
    obtain rfl : q = a0 := by simpa using hq
    clear hq
    go_enter Tryz.func22, Tryz.ntmps22
    go_wp2_with (first | (go_at_call 20; (refine HP.out.mono ?_; rintro e w1 ⟨rfl, hb1⟩)) | (go_at_call 50; (refine (HS.out _).mono ?_; rintro e w2 ⟨rfl, hb2⟩; have hB := Lib.hid (below_step (below_step hb1 (below_alloc (Below.refl _ _) _)) hb2); have hconv := Lib.run_convert_string_bytes (P := Tryz.prog) w2 9 23 5 lo Tryz.underlying9 Tryz.underlying23 Tryz.underlying5; have hb23 := Lib.hid (below_bytes w2 5 lo); have hb3 := Lib.hid (below_step hB.out (below_bytes w2 5 lo)); have hcell := Lib.hid (fun j hj => Lib.bytesWorld_cell w2 5 lo j hj); have hlt0 : Hid (w2.heap.size < (Lib.bytesWorld w2 5 lo).heap.size) := Lib.hid (by rw [Lib.bytesWorld_size]; omega); generalize Lib.bytesWorld w2 5 lo = w3 at *; generalize grownCap w2 lo.size 0 5 = cap at *)))
    go_loopw [5, 6, 21] (fun v5 v6 i wr => ∃ (j : Nat) (o : List Int) (gap : Bool), j ≤ lo.size ∧ v6 = .bool gap ∧ i = .int .i64 j ∧ Hid (sgL ((btl lo).drop j) o gap = F) ∧ Hid (o.length ≤ 20) ∧ Hid (Kd.R (Kd.int .u8) 5 wr w.heap.size (fun b => b ≠ w2.heap.size) v5 o) ∧ Hid (Bytes wr w2.heap.size lo) ∧ Hid (Below w.heap.size w wr)) (fun _ _ i _ => lo.size - (intOf i).toNat)
    case atStart =>
      refine ⟨0, [], false, Nat.zero_le _, rfl, rfl, hF.out.symm ▸ Lib.hid rfl, Lib.hid zb26, Lib.hid ?_, Lib.hid ⟨hlt0.out, fun j hj => by rw [hcell.out j hj, bt_getD lo j hj]⟩, hb3⟩
      have h1 := Kd.R_bound (u8_new w1)
      have h2 := Kd.R_below (Kd.R_below h1 hb2) hb23.out
      exact Kd.R_lower (Kd.R_mono h2 (fun k hk => by have := hk.2.2.1; have := hb2.size; omega)) hb1.size
    case round =>
      obtain ⟨j, o, gap, hj, rfl, rfl, hS, hlen, hR, hBy, hBl⟩ := hrel
      obtain ⟨A, cp, rfl⟩ := Kd.R_slice hR.out
      by_cases hlt : j < lo.size
      · have hS' := hS.out
        rw [btl_drop lo j hlt, sgL] at hS'
        have hc := hBy.out.2 j hlt
        obtain ⟨q1, q2⟩ := bt_range lo j
        clear hS
        generalize bt lo j = c at *
        by_cases hlet : slI c = true
        · rw [if_pos hlet] at hS'
          by_cases hgp : gap = true
          · subst hgp
            by_cases hl19 : o.length < 19
            · rw [show dash o true = o ++ [45] from if_pos ⟨rfl, hl19⟩, if_neg (by rw [List.length_append, List.length_singleton]; omega)] at hS'
              replace hS' := Lib.hid hS'
              have h20 := Lib.hid hl19
              have hl19' : (o.length : Int) < 19 := by omega
              obtain ⟨o1, ho1⟩ : ∃ o1, o1 = o ++ [45] := ⟨_, rfl⟩
              rw [← ho1] at hS'
              have hl1 : o1.length = o.length + 1 := by rw [ho1, List.length_append, List.length_singleton]
              have h20' : ((o1.length : Int) == 20) = false := by simp; omega
              have hlen1 := Lib.hid (show o1.length ≤ 20 by omega)
              replace ho1 := Lib.hid ho1
              replace hl1 := Lib.hid hl1
              clear hl19
              unfold slI at hlet
              by_cases u1 : 97 ≤ c
              · have u2 : c ≤ 122 := by simp at hlet; omega
                clear hlet
                go_wp2_with (first | ((with_reducible refine gate_builtin (b := .append) (xs := #[.tmp 49, .tmp 50]) rfl ?_); at_builtin; (refine Kd.R_append (Kd.int .u8) (w0 := w) w.heap.size rfl (.tmp 49) (.tmp 50) 23 5 (.int .u8 0) 1 rfl Tryz.underlying23 info5 rfl zb20 zb16 (.slice A o.length cp) o 45 [.int .u8 45] (fun b => b ≠ w2.heap.size) (fun _ => False) rfl rfl ?aP (fun _ hk => hk.elim) ?aF ?aO ?aB ?aS ?aL ?_; (case aP => exact rfl); (case aB => exact hBl.out); (case aF => exact (fun k hk => by have := hBy.out.1; (try simp only [World.size_alloc] at hk); omega)); (case aO => exact hR.out); (case aS => exact below_size hBl.out); (case aL => have := hlen.out; (try simp only [List.length_append, List.length_singleton]); omega); intro v1 w4 ho hb hg hat; rw [← ho1.out] at ho; obtain ⟨A1, c1, rfl⟩ := Kd.R_slice ho; have hR1 := Lib.hid ho; have hBl1 := Lib.hid hb; have hBy1 := Lib.hid (hBy.out.keep (hg.block _ hBy.out.1 (Kd.R_away hR.out (fun k hk => hk))) hg.size); clear ho hb hg hat)) | ((with_reducible refine gate_builtin (b := .append) (xs := #[.tmp 55, .tmp 57]) rfl ?_); at_builtin; (refine Kd.R_append (Kd.int .u8) (w0 := w) w.heap.size rfl (.tmp 55) (.tmp 57) 23 5 (.int .u8 0) 1 rfl Tryz.underlying23 info5 rfl zb20 zb16 (.slice A1 o1.length c1) o1 c [.int .u8 c] (fun b => b ≠ w2.heap.size) (fun _ => False) rfl rfl ?aP (fun _ hk => hk.elim) ?aF ?aO ?aB ?aS ?aL ?_; (case aP => exact rfl); (case aB => exact hBl1.out); (case aF => exact (fun k hk => by have := hBy1.out.1; (try simp only [World.size_alloc] at hk); omega)); (case aO => exact hR1.out); (case aS => exact below_size hBl1.out); (case aL => have := hlen1.out; (try simp only [List.length_append, List.length_singleton]); omega); intro v2 w5 ho hb hg hat; have hR2 := Lib.hid ho; have hBl2 := Lib.hid hb; have hBy2 := Lib.hid (hBy1.out.keep (hg.block _ hBy1.out.1 (Kd.R_away hR1.out (fun k hk => hk))) hg.size); clear ho hb hg hat)))
                go_roundw
                case rel => exact ⟨j + 1, (o1 ++ [c]), false, by omega, rfl, by go_num, Lib.hid zb46, Lib.hid zb42, hR2, hBy2, hBl2⟩
                case measure => simp [intOf]; omega
              · have u3 : 48 ≤ c := by simp at hlet; omega
                have u4 : c ≤ 57 := by simp at hlet; omega
                clear hlet
                go_wp2_with (first | ((with_reducible refine gate_builtin (b := .append) (xs := #[.tmp 49, .tmp 50]) rfl ?_); at_builtin; (refine Kd.R_append (Kd.int .u8) (w0 := w) w.heap.size rfl (.tmp 49) (.tmp 50) 23 5 (.int .u8 0) 1 rfl Tryz.underlying23 info5 rfl zb20 zb16 (.slice A o.length cp) o 45 [.int .u8 45] (fun b => b ≠ w2.heap.size) (fun _ => False) rfl rfl ?aP (fun _ hk => hk.elim) ?aF ?aO ?aB ?aS ?aL ?_; (case aP => exact rfl); (case aB => exact hBl.out); (case aF => exact (fun k hk => by have := hBy.out.1; (try simp only [World.size_alloc] at hk); omega)); (case aO => exact hR.out); (case aS => exact below_size hBl.out); (case aL => have := hlen.out; (try simp only [List.length_append, List.length_singleton]); omega); intro v1 w4 ho hb hg hat; rw [← ho1.out] at ho; obtain ⟨A1, c1, rfl⟩ := Kd.R_slice ho; have hR1 := Lib.hid ho; have hBl1 := Lib.hid hb; have hBy1 := Lib.hid (hBy.out.keep (hg.block _ hBy.out.1 (Kd.R_away hR.out (fun k hk => hk))) hg.size); clear ho hb hg hat)) | ((with_reducible refine gate_builtin (b := .append) (xs := #[.tmp 55, .tmp 57]) rfl ?_); at_builtin; (refine Kd.R_append (Kd.int .u8) (w0 := w) w.heap.size rfl (.tmp 55) (.tmp 57) 23 5 (.int .u8 0) 1 rfl Tryz.underlying23 info5 rfl zb20 zb16 (.slice A1 o1.length c1) o1 c [.int .u8 c] (fun b => b ≠ w2.heap.size) (fun _ => False) rfl rfl ?aP (fun _ hk => hk.elim) ?aF ?aO ?aB ?aS ?aL ?_; (case aP => exact rfl); (case aB => exact hBl1.out); (case aF => exact (fun k hk => by have := hBy1.out.1; (try simp only [World.size_alloc] at hk); omega)); (case aO => exact hR1.out); (case aS => exact below_size hBl1.out); (case aL => have := hlen1.out; (try simp only [List.length_append, List.length_singleton]); omega); intro v2 w5 ho hb hg hat; have hR2 := Lib.hid ho; have hBl2 := Lib.hid hb; have hBy2 := Lib.hid (hBy1.out.keep (hg.block _ hBy1.out.1 (Kd.R_away hR1.out (fun k hk => hk))) hg.size); clear ho hb hg hat)))
                go_roundw
                case rel => exact ⟨j + 1, (o1 ++ [c]), false, by omega, rfl, by go_num, Lib.hid zb46, Lib.hid zb42, hR2, hBy2, hBl2⟩
                case measure => simp [intOf]; omega
            · rw [show dash o true = o from if_neg (fun h => hl19 h.2)] at hS'
              have hl19' : ¬ (o.length : Int) < 19 := by omega
              clear hl19
              by_cases hl20 : o.length = 20
              · rw [if_pos hl20] at hS'
                have hl20' : ((o.length : Int) == 20) = true := by simp; omega
                clear hl20
                unfold slI at hlet
                by_cases u1 : 97 ≤ c
                · have u2 : c ≤ 122 := by simp at hlet; omega
                  clear hlet
                  have hconv2 : (convert 23 9 (.slice A o.length cp)).run Tryz.prog wr = .ok (.string (strOfNums o)) wr := Kd.C_string Tryz.underlying23 Tryz.underlying5 Tryz.underlying9 (Kd.R_reads' hR.out).2.2
                  obtain ⟨out, hout⟩ : ∃ x, x = strOfNums o := ⟨_, rfl⟩
                  rw [← hout] at hconv2
                  have hout' := Lib.hid (hout.trans (congrArg strOfNums hS'))
                  clear hout hS'
                  go_wp2
                  go_ret
                  exact ⟨ret_str hout'.out, hBl.out⟩
                · have u3 : 48 ≤ c := by simp at hlet; omega
                  have u4 : c ≤ 57 := by simp at hlet; omega
                  clear hlet
                  have hconv2 : (convert 23 9 (.slice A o.length cp)).run Tryz.prog wr = .ok (.string (strOfNums o)) wr := Kd.C_string Tryz.underlying23 Tryz.underlying5 Tryz.underlying9 (Kd.R_reads' hR.out).2.2
                  obtain ⟨out, hout⟩ : ∃ x, x = strOfNums o := ⟨_, rfl⟩
                  rw [← hout] at hconv2
                  have hout' := Lib.hid (hout.trans (congrArg strOfNums hS'))
                  clear hout hS'
                  go_wp2
                  go_ret
                  exact ⟨ret_str hout'.out, hBl.out⟩
              · rw [if_neg hl20] at hS'
                replace hS' := Lib.hid hS'
                have h20 := Lib.hid (show o.length < 20 by have := hlen.out; omega)
                have hl20' : ((o.length : Int) == 20) = false := by simp; omega
                clear hl20
                unfold slI at hlet
                by_cases u1 : 97 ≤ c
                · have u2 : c ≤ 122 := by simp at hlet; omega
                  clear hlet
                  go_wp2_with ((with_reducible refine gate_builtin (b := .append) (xs := #[.tmp 55, .tmp 57]) rfl ?_); at_builtin; (refine Kd.R_append (Kd.int .u8) (w0 := w) w.heap.size rfl (.tmp 55) (.tmp 57) 23 5 (.int .u8 0) 1 rfl Tryz.underlying23 info5 rfl zb20 zb16 (.slice A o.length cp) o c [.int .u8 c] (fun b => b ≠ w2.heap.size) (fun _ => False) rfl rfl ?aP (fun _ hk => hk.elim) ?aF ?aO ?aB ?aS ?aL ?_; (case aP => exact rfl); (case aB => exact hBl.out); (case aF => exact (fun k hk => by have := hBy.out.1; (try simp only [World.size_alloc] at hk); omega)); (case aO => exact hR.out); (case aS => exact below_size hBl.out); (case aL => have := hlen.out; (try simp only [List.length_append, List.length_singleton]); omega); intro v2 w5 ho hb hg hat; have hR2 := Lib.hid ho; have hBl2 := Lib.hid hb; have hBy2 := Lib.hid (hBy.out.keep (hg.block _ hBy.out.1 (Kd.R_away hR.out (fun k hk => hk))) hg.size); clear ho hb hg hat))
                  go_roundw
                  case rel => exact ⟨j + 1, (o ++ [c]), false, by omega, rfl, by go_num, Lib.hid zb46, Lib.hid zb27, hR2, hBy2, hBl2⟩
                  case measure => simp [intOf]; omega
                · have u3 : 48 ≤ c := by simp at hlet; omega
                  have u4 : c ≤ 57 := by simp at hlet; omega
                  clear hlet
                  go_wp2_with ((with_reducible refine gate_builtin (b := .append) (xs := #[.tmp 55, .tmp 57]) rfl ?_); at_builtin; (refine Kd.R_append (Kd.int .u8) (w0 := w) w.heap.size rfl (.tmp 55) (.tmp 57) 23 5 (.int .u8 0) 1 rfl Tryz.underlying23 info5 rfl zb20 zb16 (.slice A o.length cp) o c [.int .u8 c] (fun b => b ≠ w2.heap.size) (fun _ => False) rfl rfl ?aP (fun _ hk => hk.elim) ?aF ?aO ?aB ?aS ?aL ?_; (case aP => exact rfl); (case aB => exact hBl.out); (case aF => exact (fun k hk => by have := hBy.out.1; (try simp only [World.size_alloc] at hk); omega)); (case aO => exact hR.out); (case aS => exact below_size hBl.out); (case aL => have := hlen.out; (try simp only [List.length_append, List.length_singleton]); omega); intro v2 w5 ho hb hg hat; have hR2 := Lib.hid ho; have hBl2 := Lib.hid hb; have hBy2 := Lib.hid (hBy.out.keep (hg.block _ hBy.out.1 (Kd.R_away hR.out (fun k hk => hk))) hg.size); clear ho hb hg hat))
                  go_roundw
                  case rel => exact ⟨j + 1, (o ++ [c]), false, by omega, rfl, by go_num, Lib.hid zb46, Lib.hid zb27, hR2, hBy2, hBl2⟩
                  case measure => simp [intOf]; omega
          · obtain rfl : gap = false := by simpa using hgp
            clear hgp
            rw [show dash o false = o from if_neg (fun h => absurd h.1 zb20)] at hS'
            by_cases hl20 : o.length = 20
            · rw [if_pos hl20] at hS'
              have hl20' : ((o.length : Int) == 20) = true := by simp; omega
              clear hl20
              unfold slI at hlet
              by_cases u1 : 97 ≤ c
              · have u2 : c ≤ 122 := by simp at hlet; omega
                clear hlet
                have hconv2 : (convert 23 9 (.slice A o.length cp)).run Tryz.prog wr = .ok (.string (strOfNums o)) wr := Kd.C_string Tryz.underlying23 Tryz.underlying5 Tryz.underlying9 (Kd.R_reads' hR.out).2.2
                obtain ⟨out, hout⟩ : ∃ x, x = strOfNums o := ⟨_, rfl⟩
                rw [← hout] at hconv2
                have hout' := Lib.hid (hout.trans (congrArg strOfNums hS'))
                clear hout hS'
                go_wp2
                go_ret
                exact ⟨ret_str hout'.out, hBl.out⟩
              · have u3 : 48 ≤ c := by simp at hlet; omega
                have u4 : c ≤ 57 := by simp at hlet; omega
                clear hlet
                have hconv2 : (convert 23 9 (.slice A o.length cp)).run Tryz.prog wr = .ok (.string (strOfNums o)) wr := Kd.C_string Tryz.underlying23 Tryz.underlying5 Tryz.underlying9 (Kd.R_reads' hR.out).2.2
                obtain ⟨out, hout⟩ : ∃ x, x = strOfNums o := ⟨_, rfl⟩
                rw [← hout] at hconv2
                have hout' := Lib.hid (hout.trans (congrArg strOfNums hS'))
                clear hout hS'
                go_wp2
                go_ret
                exact ⟨ret_str hout'.out, hBl.out⟩
            · rw [if_neg hl20] at hS'
              replace hS' := Lib.hid hS'
              have h20 := Lib.hid (show o.length < 20 by have := hlen.out; omega)
              have hl20' : ((o.length : Int) == 20) = false := by simp; omega
              clear hl20
              unfold slI at hlet
              by_cases u1 : 97 ≤ c
              · have u2 : c ≤ 122 := by simp at hlet; omega
                clear hlet
                go_wp2_with ((with_reducible refine gate_builtin (b := .append) (xs := #[.tmp 55, .tmp 57]) rfl ?_); at_builtin; (refine Kd.R_append (Kd.int .u8) (w0 := w) w.heap.size rfl (.tmp 55) (.tmp 57) 23 5 (.int .u8 0) 1 rfl Tryz.underlying23 info5 rfl zb20 zb16 (.slice A o.length cp) o c [.int .u8 c] (fun b => b ≠ w2.heap.size) (fun _ => False) rfl rfl ?aP (fun _ hk => hk.elim) ?aF ?aO ?aB ?aS ?aL ?_; (case aP => exact rfl); (case aB => exact hBl.out); (case aF => exact (fun k hk => by have := hBy.out.1; (try simp only [World.size_alloc] at hk); omega)); (case aO => exact hR.out); (case aS => exact below_size hBl.out); (case aL => have := hlen.out; (try simp only [List.length_append, List.length_singleton]); omega); intro v2 w5 ho hb hg hat; have hR2 := Lib.hid ho; have hBl2 := Lib.hid hb; have hBy2 := Lib.hid (hBy.out.keep (hg.block _ hBy.out.1 (Kd.R_away hR.out (fun k hk => hk))) hg.size); clear ho hb hg hat))
                go_roundw
                case rel => exact ⟨j + 1, (o ++ [c]), false, by omega, rfl, by go_num, Lib.hid zb46, Lib.hid zb27, hR2, hBy2, hBl2⟩
                case measure => simp [intOf]; omega
              · have u3 : 48 ≤ c := by simp at hlet; omega
                have u4 : c ≤ 57 := by simp at hlet; omega
                clear hlet
                go_wp2_with ((with_reducible refine gate_builtin (b := .append) (xs := #[.tmp 55, .tmp 57]) rfl ?_); at_builtin; (refine Kd.R_append (Kd.int .u8) (w0 := w) w.heap.size rfl (.tmp 55) (.tmp 57) 23 5 (.int .u8 0) 1 rfl Tryz.underlying23 info5 rfl zb20 zb16 (.slice A o.length cp) o c [.int .u8 c] (fun b => b ≠ w2.heap.size) (fun _ => False) rfl rfl ?aP (fun _ hk => hk.elim) ?aF ?aO ?aB ?aS ?aL ?_; (case aP => exact rfl); (case aB => exact hBl.out); (case aF => exact (fun k hk => by have := hBy.out.1; (try simp only [World.size_alloc] at hk); omega)); (case aO => exact hR.out); (case aS => exact below_size hBl.out); (case aL => have := hlen.out; (try simp only [List.length_append, List.length_singleton]); omega); intro v2 w5 ho hb hg hat; have hR2 := Lib.hid ho; have hBl2 := Lib.hid hb; have hBy2 := Lib.hid (hBy.out.keep (hg.block _ hBy.out.1 (Kd.R_away hR.out (fun k hk => hk))) hg.size); clear ho hb hg hat))
                go_roundw
                case rel => exact ⟨j + 1, (o ++ [c]), false, by omega, rfl, by go_num, Lib.hid zb46, Lib.hid zb27, hR2, hBy2, hBl2⟩
                case measure => simp [intOf]; omega
        · rw [if_neg hlet] at hS'
          replace hS' := Lib.hid hS'
          unfold slI at hlet
          by_cases u1 : 97 ≤ c
          · have u2 : ¬ c ≤ 122 := by simp at hlet; omega
            have u3 : 48 ≤ c := by omega
            have u4 : ¬ c ≤ 57 := by omega
            clear hlet
            go_wp2
            go_roundw
            case rel => exact ⟨j + 1, o, _, by omega, rfl, by go_num, Lib.hid zb46, hlen, hR, hBy, hBl⟩
            case measure => simp [intOf]; omega
          · by_cases u3 : 48 ≤ c
            · have u4 : ¬ c ≤ 57 := by simp at hlet; omega
              clear hlet
              go_wp2
              go_roundw
              case rel => exact ⟨j + 1, o, _, by omega, rfl, by go_num, Lib.hid zb46, hlen, hR, hBy, hBl⟩
              case measure => simp [intOf]; omega
            · clear hlet
              go_wp2
              go_roundw
              case rel => exact ⟨j + 1, o, _, by omega, rfl, by go_num, Lib.hid zb46, hlen, hR, hBy, hBl⟩
              case measure => simp [intOf]; omega
      · obtain rfl : j = lo.size := by omega
        have hS' := hS.out
        rw [List.drop_eq_nil_of_le (by simp [btl])] at hS'
        rw [sgL] at hS'
        have hconv2 : (convert 23 9 (.slice A o.length cp)).run Tryz.prog wr = .ok (.string (strOfNums o)) wr := Kd.C_string Tryz.underlying23 Tryz.underlying5 Tryz.underlying9 (Kd.R_reads' hR.out).2.2
        obtain ⟨out, hout⟩ : ∃ x, x = strOfNums o := ⟨_, rfl⟩
        rw [← hout] at hconv2
        have hout' := Lib.hid (hout.trans (congrArg strOfNums hS'))
        clear hout hS' hS
        go_wp2
        go_ret
        exact ⟨ret_str hout'.out, hBl.out⟩
end Go.Proofs.YteonhdfjfjpbjaaGreatDoor.O
/- SpP -/
namespace Go.Proofs.YteonhdfjfjpbjaaGreatDoor.Sp
open Go.RowKit Go.Proofs.YteonhdfjfjpbjaaGreatDoorW.PrintWords Go.Proofs.YteonhdfjfjpbjaaGreatDoorW.PrintLast Go.Proofs.YteonhdfjfjpbjaaGreatDoor.O Go.Proofs.YteonhdfjfjpbjaaGreatDoor.P
set_option linter.unusedVariables false
set_option linter.unusedSimpArgs false
def hx2 (a b : UInt8) : UInt8 := UInt8.ofNat ((hexV a).getD 0 * 16 + (hexV b).getD 0)
def perc : Nat → L → Option L
  | 0, _ => none
  | f + 1, s => if (Lib.cut s [37]).2.2 = true then (match (Lib.cut s [37]).2.1 with
      | a :: b :: t => if hexB a = true ∧ hexB b = true then (perc f t).map (fun q => (Lib.cut s [37]).1 ++ hx2 a b :: q) else none
      | _ => none) else some s
def percS (s : L) : Option L := perc (s.length + 1) s
def percR (acc : L) (r : Option L) : ByteArray × Bool := match r with
  | some t => (mk (acc ++ t), true)
  | none => (⟨#[]⟩, false)
theorem trim_hex (a b : UInt8) : Lib.trimS [a, b] hexS = [] ↔ (hexB a = true ∧ hexB b = true) := by
  unfold Lib.trimS Lib.trimLeftS Lib.trimRightS
  rw [hex_eq]
  show List.dropWhile hexB (List.dropWhile hexB [b, a]).reverse = [] ↔ _
  by_cases hb : hexB b = true
  · by_cases ha : hexB a = true
    · simp [List.dropWhile, ha, hb]
    · simp [List.dropWhile, ha, hb]
  · by_cases ha : hexB a = true
    · simp [List.dropWhile, ha, hb]
    · simp [List.dropWhile, ha, hb]
theorem hx2_toNat (a b : UInt8) : ((hx2 a b).toNat : Int) = ((hexN [a, b] : Nat) : Int) % 256 := by
  have h1 := hexV_lt a
  have h2 := hexV_lt b
  have e : hexN [a, b] = (hexV a).getD 0 * 16 + (hexV b).getD 0 := by simp [hexN]
  unfold hx2
  rw [e, UInt8.toNat_ofNat']
  omega
theorem perc_l0 : ∀ (d f k : Nat) (s acc : L), s.length ≤ d → d < f → 2 * d + 3 ≤ k → acc.length + s.length ≤ 1000000000 → request_Percent.l0 k (mk s) (mk acc) = some (percR acc (perc f s)) := by
  intro d
  induction d with
  | zero =>
    intro f k s acc hs hf hk hb
    obtain ⟨k, rfl⟩ : ∃ k', k = k' + 1 := ⟨k - 1, by omega⟩
    obtain ⟨f, rfl⟩ : ∃ f', f = f' + 1 := ⟨f - 1, by omega⟩
    obtain rfl : s = [] := List.eq_nil_of_length_eq_zero (by omega)
    have e := cut1_none (c := 37) (s := []) (by simp)
    rw [request_Percent.l0, show (⟨#[37]⟩ : ByteArray) = mk [37] from rfl, cut_l, if_pos (by simp), e, perc, e]
    simp only [Option.bind_some]
    rw [Builder_WriteString.f, if_pos (by rw [mk_size, mk_size]; simp; simp at hb; omega)]
    simp [percR, Builder_String.f, mk_append]
  | succ d ih =>
    intro f k s acc hs hf hk hb
    obtain ⟨k, rfl⟩ : ∃ k', k = k' + 2 := ⟨k - 2, by omega⟩
    obtain ⟨f, rfl⟩ : ∃ f', f = f' + 1 := ⟨f - 1, by omega⟩
    rcases index1 37 s with ⟨e1, _⟩ | ⟨x, y, e1, e2, _⟩
    · have e := cut1_none e1
      rw [request_Percent.l0, show (⟨#[37]⟩ : ByteArray) = mk [37] from rfl, cut_l, if_pos (by omega), e, perc, e]
      simp only [Option.bind_some]
      rw [Builder_WriteString.f, if_pos (by rw [mk_size, mk_size]; omega)]
      simp [percR, Builder_String.f, mk_append]
    · have e := cut1_some x y e2
      rw [← e1] at e
      have hsz : s.length = x.length + (y.length + 1) := by rw [e1]; simp
      rw [request_Percent.l0, show (⟨#[37]⟩ : ByteArray) = mk [37] from rfl, cut_l, if_pos (by omega), e, perc, e]
      simp only [Option.bind_some, if_true]
      rw [Builder_WriteString.f, if_pos (by rw [mk_size, mk_size]; omega)]
      simp only [Option.bind_some, mk_append]
      match y, hsz with
      | [], _ => rw [if_pos (by rw [mk_size]; simp), request_Percent.j1, if_pos rfl]; rfl
      | [a], _ => rw [if_pos (by rw [mk_size]; simp), request_Percent.j1, if_pos rfl]; rfl
      | a :: b :: t, hsz =>
        simp only [List.length_cons] at hsz
        have ht : ((mk (a :: b :: t)).extract 0 2) = mk [a, b] := by rw [ext_to]; rfl
        have ht2 : ((mk (a :: b :: t)).extract 2 (mk (a :: b :: t)).size) = mk t := by rw [ext_from]; rfl
        rw [if_neg (by rw [mk_size]; simp only [List.length_cons]; omega), if_pos (by decide), if_pos (by rw [mk_size]; simp only [List.length_cons]; omega), ht]
        rw [strings_Trim.f, if_pos ⟨by rw [mk_size]; simp, by decide, by decide⟩]
        simp only [Option.bind_some, mk_data]
        rw [show ([48, 49, 50, 51, 52, 53, 54, 55, 56, 57, 97, 98, 99, 100, 101, 102, 65, 66, 67, 68, 69, 70] : List UInt8) = hexS from rfl, show (⟨(Lib.trimS [a, b] hexS).toArray⟩ : ByteArray) = mk (Lib.trimS [a, b] hexS) from rfl, tl_mk, request_Percent.j1]
        by_cases hx : hexB a = true ∧ hexB b = true
        · rw [if_neg (by simp [(trim_hex a b).2 hx]), if_pos (by decide), if_pos (by rw [mk_size]; simp only [List.length_cons]; omega), ht, ht2, puF [a, b] (by simp) (by simp [hx.1, hx.2]), puS_eq [a, b] (by simp) (by simp [hx.1, hx.2]) (by simp)]
          simp only [Option.bind_some]
          rw [if_pos (by rfl), Builder_PutByte.f, ← hx2_toNat, oneB_mk, if_pos ⟨by omega, by have := (hx2 a b).toNat_lt; omega, by rw [mk_size, List.length_append]; omega⟩]
          simp only [Option.bind_some, mk_append]
          rw [ih f k t (acc ++ x ++ [hx2 a b]) (by omega) (by omega) (by omega) (by simp only [List.length_append, List.length_singleton]; omega)]
          rw [if_pos hx]
          cases perc f t with
          | none => rfl
          | some q => simp [percR]
        · rw [if_pos (by simpa using fun h => hx ((trim_hex a b).1 h)), if_neg hx]
          rfl
theorem percF (s : L) (k : Nat) (hs : s.length ≤ 1000000) (hk : 2 * s.length + 3 ≤ k) : request_Percent.f k (mk s) = some (percR [] (percS s)) :=
  perc_l0 s.length (s.length + 1) k s [] (Nat.le_refl _) (Nat.lt_succ_self _) hk (by simp; omega)
end Go.Proofs.YteonhdfjfjpbjaaGreatDoor.Sp
/- Oslg -/
namespace Go.Proofs.YteonhdfjfjpbjaaGreatDoor.Sp
open Go.RowKit Go.Proofs.YteonhdfjfjpbjaaGreatDoorW.PrintWords Go.Proofs.YteonhdfjfjpbjaaGreatDoorW.PrintLast Go.Proofs.YteonhdfjfjpbjaaGreatDoor.O Go.Proofs.YteonhdfjfjpbjaaGreatDoor.P
set_option linter.unusedVariables false
set_option linter.unusedSimpArgs false
theorem perc_len : ∀ (f : Nat) (s t : L), perc f s = some t → t.length ≤ s.length := by
  intro f
  induction f with
  | zero => intro s t h; simp [perc] at h
  | succ f ih =>
    intro s t h
    rcases index1 37 s with ⟨e1, _⟩ | ⟨x, y, e1, e2, _⟩
    · rw [perc, cut1_none e1] at h
      simp only [Bool.false_eq_true, if_false, Option.some.injEq] at h
      rw [h]
      exact Nat.le_refl _
    · have hsz : s.length = x.length + (y.length + 1) := by rw [e1]; simp
      have e := cut1_some x y e2
      rw [← e1] at e
      rw [perc, e] at h
      simp only [if_true] at h
      match y, hsz, h with
      | a :: b :: r, hsz, h =>
        simp only at h
        split at h
        · cases e3 : perc f r with
          | none => rw [e3] at h; simp at h
          | some q =>
            rw [e3] at h
            simp only [Option.map_some, Option.some.injEq] at h
            have := ih r q e3
            rw [← h]
            simp only [List.length_append, List.length_cons] at hsz ⊢
            omega
        · cases h
      | [], hsz, h => simp at h
      | [_], hsz, h => simp at h
def slugT (s : L) : L := (percS s).getD s
def slugB (s : L) : ByteArray := strOfNums (sgL (btl (mk (low (slugT s)))) [] false)
theorem slugT_len (s : L) : (slugT s).length ≤ s.length := by
  unfold slugT
  cases h : percS s with
  | none => exact Nat.le_refl _
  | some t => exact perc_len _ _ _ h
end Go.Proofs.YteonhdfjfjpbjaaGreatDoor.Sp
namespace Go.Proofs.YteonhdfjfjpbjaaGreatDoor.O
open Go.RowKit Go.Proofs.YteonhdfjfjpbjaaGreatDoorW.PrintWords Go.Proofs.YteonhdfjfjpbjaaGreatDoorW.PrintLast Go.Proofs.YteonhdfjfjpbjaaGreatDoorW.PrintMore Go.Proofs.YteonhdfjfjpbjaaGreatDoor.P
def request_Slug.f (a0 : ByteArray) : Option ByteArray := if a0.size ≤ 1000000 then some (Sp.slugB a0.data.toList) else none
theorem request_Slug.calls (a0 : ByteArray) (r : ByteArray) (w : World) (hG : Glob w) (h : request_Slug.f a0 = some r) :
    Calls Tryz.prog 22 #[.string a0] w fun e w' => e = .returned (.string r) ∧ Below w.heap.size w w' := by
  unfold request_Slug.f at h
  split at h
  case isFalse => exact absurd h zb26
  rename_i hs
  obtain rfl := Option.some.inj h
  have hs' : a0.data.toList.length ≤ 1000000 := by rw [← Lib.size_eq]; exact hs
  have hp := Sp.percF a0.data.toList (2 * a0.data.toList.length + 3) hs' (Nat.le_refl _)
  rw [Sp.mk_self] at hp
  have hl := Sp.slugT_len a0.data.toList
  refine slug_in _ a0 _ (Sp.mk (Sp.low (Sp.slugT a0.data.toList))) _ w hG hp ?_ (by rw [Sp.mk_size, Sp.low_len]; omega)
  have e : (if (Sp.percR [] (Sp.percS a0.data.toList)).2 = true then (Sp.percR [] (Sp.percS a0.data.toList)).1 else a0) = Sp.mk (Sp.slugT a0.data.toList) := by
    unfold Sp.percR Sp.slugT
    cases Sp.percS a0.data.toList with
    | none => exact (Sp.mk_self a0).symm
    | some t => rfl
  have h2 := Sp.lowF (Sp.slugT a0.data.toList) zb16
  rw [← e] at h2
  exact h2
end Go.Proofs.YteonhdfjfjpbjaaGreatDoor.O
/- Px18 -/
namespace Go.Proofs.YteonhdfjfjpbjaaGreatDoor.P
open Go.Proofs.YteonhdfjfjpbjaaGreatDoor.B
open Go.RowKit Go.Proofs.YteonhdfjfjpbjaaGreatDoorW.PrintWords Go.Proofs.YteonhdfjfjpbjaaGreatDoorW.PrintLast Go.Proofs.YteonhdfjfjpbjaaGreatDoorW.PrintMore
attribute [local go_sem] str_leq str_gtr str_geq max2_int min2_int max_two min_two max_three min_three max_four min_four
set_option linter.unusedVariables false
set_option linter.unusedSimpArgs false
open Go.Proofs.YteonhdfjfjpbjaaGreatDoor.O
def broadsheetlaw20_awake.f  : Option (Bool) := (request_Parse.f (⟨#[71, 69, 84, 32, 47, 32, 72, 84, 84, 80, 47, 49, 46, 49, 13, 10, 72, 111, 115, 116, 58, 32, 97, 13, 10, 13, 10]⟩ : ByteArray)).bind fun bt204 => ((request_Parse.f (⟨#[71, 69, 84, 32, 47, 32, 72, 84, 84, 80, 47, 49, 46, 48, 13, 10, 13, 10]⟩ : ByteArray)).bind fun bt212 => (if bt204.2.2.2.2 = 0 then (if bt204.1.toList = ([71, 69, 84] : List UInt8) then (if bt204.2.1.toList = ([47] : List UInt8) then (if (bt204.2.2.1.length : Int) = 1 then (if bt212.2.2.2.2 = 200 then ((request_Slug.f (⟨#[84, 104, 101, 32, 66, 101, 97, 99, 104, 32, 97, 116, 32, 83, 37, 67, 51, 37, 65, 56, 116, 101]⟩ : ByteArray)).bind fun t220 => (some (t220.toList == ([116, 104, 101, 45, 98, 101, 97, 99, 104, 45, 97, 116, 45, 115, 45, 116, 101] : List UInt8)))) else (some false)) else (some false)) else (some false)) else (some false)) else (some false)))
set_option maxHeartbeats 8000000 in
set_option maxRecDepth 100000 in
theorem broadsheetlaw20_awake.calls  (r : Bool) (w : World) (hG : Glob w) (h : broadsheetlaw20_awake.f  = some r) (hr : r = true) :
  Calls Tryz.prog 16 #[] w fun e w' => e = .returned (.bool r) ∧ Below w.heap.size w w' := by
 have hu36 := Tryz.underlying36
 have HB := Aside0.mk (Below.refl w.heap.size w)
 have hGA := Aside0.mk hG
 clear hG
 have H : ((request_Parse.f (⟨#[71, 69, 84, 32, 47, 32, 72, 84, 84, 80, 47, 49, 46, 49, 13, 10, 72, 111, 115, 116, 58, 32, 97, 13, 10, 13, 10]⟩ : ByteArray)).bind fun bt204 => ((request_Parse.f (⟨#[71, 69, 84, 32, 47, 32, 72, 84, 84, 80, 47, 49, 46, 48, 13, 10, 13, 10]⟩ : ByteArray)).bind fun bt212 => (if bt204.2.2.2.2 = 0 then (if bt204.1.toList = ([71, 69, 84] : List UInt8) then (if bt204.2.1.toList = ([47] : List UInt8) then (if (bt204.2.2.1.length : Int) = 1 then (if bt212.2.2.2.2 = 200 then ((request_Slug.f (⟨#[84, 104, 101, 32, 66, 101, 97, 99, 104, 32, 97, 116, 32, 83, 37, 67, 51, 37, 65, 56, 116, 101]⟩ : ByteArray)).bind fun t220 => (some (t220.toList == ([116, 104, 101, 45, 98, 101, 97, 99, 104, 45, 97, 116, 45, 115, 45, 116, 101] : List UInt8)))) else (some false)) else (some false)) else (some false)) else (some false)) else (some false)))) = some r := h
 clear h
 replace H := Option.bind_eq_some_iff.mp H
 obtain ⟨⟨t204, t205, t206, t209, t210⟩, A10, H⟩ := H
 replace H : ((request_Parse.f (⟨#[71, 69, 84, 32, 47, 32, 72, 84, 84, 80, 47, 49, 46, 48, 13, 10, 13, 10]⟩ : ByteArray)).bind fun bt212 => (if t210 = 0 then (if t204.toList = ([71, 69, 84] : List UInt8) then (if t205.toList = ([47] : List UInt8) then (if (t206.length : Int) = 1 then (if bt212.2.2.2.2 = 200 then ((request_Slug.f (⟨#[84, 104, 101, 32, 66, 101, 97, 99, 104, 32, 97, 116, 32, 83, 37, 67, 51, 37, 65, 56, 116, 101]⟩ : ByteArray)).bind fun t220 => (some (t220.toList == ([116, 104, 101, 45, 98, 101, 97, 99, 104, 45, 97, 116, 45, 115, 45, 116, 101] : List UInt8)))) else (some false)) else (some false)) else (some false)) else (some false)) else (some false))) = some r := H
 have A1 := Aside0.mk A10
 clear A10
 replace H := Option.bind_eq_some_iff.mp H
 obtain ⟨⟨t212, t213, t214, t217, t218⟩, A20, H⟩ := H
 replace H : (if t210 = 0 then (if t204.toList = ([71, 69, 84] : List UInt8) then (if t205.toList = ([47] : List UInt8) then (if (t206.length : Int) = 1 then (if t218 = 200 then ((request_Slug.f (⟨#[84, 104, 101, 32, 66, 101, 97, 99, 104, 32, 97, 116, 32, 83, 37, 67, 51, 37, 65, 56, 116, 101]⟩ : ByteArray)).bind fun t220 => (some (t220.toList == ([116, 104, 101, 45, 98, 101, 97, 99, 104, 45, 97, 116, 45, 115, 45, 116, 101] : List UInt8)))) else (some false)) else (some false)) else (some false)) else (some false)) else (some false)) = some r := H
 have A2 := Aside0.mk A20
 clear A20
 by_cases c3 : t210 = 0
 ·rw [if_pos c3] at H
  have c3b0 : (t210 == 0) = true := beq_iff_eq.mpr c3
  have c3b1 : (t210 != 0) = false := bne_eq_false_iff_eq.mpr c3
  clear c3
  by_cases c4 : t204.toList = ([71, 69, 84] : List UInt8)
  ·rw [if_pos c4] at H
   have c4b0 : (t204.toList == ([71, 69, 84] : List UInt8)) = true := beq_iff_eq.mpr c4
   have c4b1 : (t204.toList != ([71, 69, 84] : List UInt8)) = false := bne_eq_false_iff_eq.mpr c4
   clear c4
   by_cases c5 : t205.toList = ([47] : List UInt8)
   ·rw [if_pos c5] at H
    have c5b0 : (t205.toList == ([47] : List UInt8)) = true := beq_iff_eq.mpr c5
    have c5b1 : (t205.toList != ([47] : List UInt8)) = false := bne_eq_false_iff_eq.mpr c5
    clear c5
    by_cases c6 : (t206.length : Int) = 1
    ·rw [if_pos c6] at H
     have c6b0 : ((t206.length : Int) == 1) = true := beq_iff_eq.mpr c6
     have c6b1 : ((t206.length : Int) != 1) = false := bne_eq_false_iff_eq.mpr c6
     clear c6
     by_cases c7 : t218 = 200
     ·rw [if_pos c7] at H
      have c7b0 : (t218 == 200) = true := beq_iff_eq.mpr c7
      have c7b1 : (t218 != 200) = false := bne_eq_false_iff_eq.mpr c7
      clear c7
      replace H := Option.bind_eq_some_iff.mp H
      obtain ⟨t220, A80, H⟩ := H
      replace H : (some (t220.toList == ([116, 104, 101, 45, 98, 101, 97, 99, 104, 45, 97, 116, 45, 115, 45, 116, 101] : List UInt8))) = some r := H
      have A8 := Aside0.mk A80
      clear A80
      obtain rfl := Option.some.inj H
      go_enter Tryz.func16, Tryz.ntmps16
      go_wp2_with (first | ((with_reducible refine gate_callee (f := 17) rfl ?_); refine goesL_ (some 6) rfl rfl Tryz.func17 zb12 rfl #[.string (⟨#[71, 69, 84, 32, 47, 32, 72, 84, 84, 80, 47, 49, 46, 49, 13, 10, 72, 111, 115, 116, 58, 32, 97, 13, 10, 13, 10]⟩ : ByteArray)] rfl zb1 ?_; (with_reducible refine (request_Parse.calls (⟨#[71, 69, 84, 32, 47, 32, 72, 84, 84, 80, 47, 49, 46, 49, 13, 10, 72, 111, 115, 116, 58, 32, 97, 13, 10, 13, 10]⟩ : ByteArray) t204 t205 t206 t209 t210 _ ?side1 A1.out).mono ?_); (case side1 => exact Glob.below hGA.out zb0); rintro e w9 ⟨v207, rfl, ho0, hb⟩; refine ⟨_, rfl, ?_⟩; have n0_ := Aside0.mk (Kd.R_lower ho0 (below_size zb0)); have n1_ := Aside0.mk (below_step zb0 hb); clear HB; have HO208 := n0_; have HB := n1_; clear n0_ n1_; (try clear hb); (try clear hb2); (try clear hk); (try clear hi); (try clear ho0)) | ((with_reducible refine gate_dst (N := 1) rfl ?_); (try (refine gate_guard (by rfl) ?_; dsimp only)); refine box_event ?hg (N := 1) ?hd (cs := #[.string (⟨#[]⟩ : ByteArray), .string (⟨#[]⟩ : ByteArray), .slice none 0 0, .string (⟨#[]⟩ : ByteArray)]) (t := 36) ?hr ?_; (case hd => rfl); (case hg => rfl); (case hr => first | (go_simp; done) | (go_simp; rfl)); intro gb211 hg w10 hbox hb; have n0_ := Aside0.mk (Kd.R_below (by (with_reducible repeat (first | apply Kd.R_alloc | apply Kd.R_drewN | apply Kd.R_drew)); exact HO208.out) hb); have n1_ := Aside0.mk (below_step zb0 hb); have n2_ := Aside0.mk (hbox); have n3_ := Aside0.mk ((by rw [hg]; exact (below_size zb0) : w.heap.size ≤ gb211)); have n4_ := Aside0.mk ((by rw [hg]; exact (below_size zb0) : w.heap.size ≤ gb211)); clear HO208; clear HB; have HO208 := n0_; have HB := n1_; have BK211 := n2_; have GW211 := n3_; have GE211 := n4_; clear n0_ n1_ n2_ n3_ n4_; clear hb hbox hg; have hcz11_0 : w10.cell? ⟨gb211, 0, none⟩ = some (.string (⟨#[]⟩ : ByteArray)) := (blk_cell BK211.out 0).trans rfl; have hcz11_1 : w10.cell? ⟨gb211, 1, none⟩ = some (.string (⟨#[]⟩ : ByteArray)) := (blk_cell BK211.out 1).trans rfl; have hcz11_2 : w10.cell? ⟨gb211, 2, none⟩ = some (.slice none 0 0) := (blk_cell BK211.out 2).trans rfl; have hcz11_3 : w10.cell? ⟨gb211, 3, none⟩ = some (.string (⟨#[]⟩ : ByteArray)) := (blk_cell BK211.out 3).trans rfl; have hfz11_0 := blk_frozen BK211.out 0; have hfz11_1 := blk_frozen BK211.out 1; have hfz11_2 := blk_frozen BK211.out 2; have hfz11_3 := blk_frozen BK211.out 3; obtain ⟨Ao12, co12, eo12⟩ := Kd.R_slice HO208.out; subst eo12) | ((with_reducible refine gate_callee (f := 17) rfl ?_); refine goesL_ (some 10) rfl rfl Tryz.func17 zb12 rfl #[.string (⟨#[71, 69, 84, 32, 47, 32, 72, 84, 84, 80, 47, 49, 46, 48, 13, 10, 13, 10]⟩ : ByteArray)] rfl zb1 ?_; (with_reducible refine (request_Parse.calls (⟨#[71, 69, 84, 32, 47, 32, 72, 84, 84, 80, 47, 49, 46, 48, 13, 10, 13, 10]⟩ : ByteArray) t212 t213 t214 t217 t218 _ ?side1 A2.out).mono ?_); (case side1 => exact Glob.below hGA.out zb23); rintro e w13 ⟨v215, rfl, ho0, hb⟩; refine ⟨_, rfl, ?_⟩; have n0_ := Aside0.mk (Kd.R_elder' zb37 (Kd.R_base ho0) hb); have n1_ := Aside0.mk (Kd.R_lower (Kd.R_new' ho0 (Kd.R_lt zb37)) (below_size zb23)); have n2_ := Aside0.mk (blk_below (g := gb211) (o := .cells #[.string t204, .string t205, .slice Ao12 t206.length co12, .string t209] 36 (0, 0)) (by (with_reducible repeat (first | refine blk_drewN ?_ _ | refine blk_drew ?_ | refine blk_alloc ?_ _)); refine blk_put (cs := #[.string t204, .string t205, .slice Ao12 t206.length co12, .string (⟨#[]⟩ : ByteArray)]) ?_ 3 _ rfl; (with_reducible repeat (first | refine blk_drewN ?_ _ | refine blk_drew ?_ | refine blk_alloc ?_ _)); refine blk_put (cs := #[.string t204, .string t205, .slice none 0 0, .string (⟨#[]⟩ : ByteArray)]) ?_ 2 _ rfl; (with_reducible repeat (first | refine blk_drewN ?_ _ | refine blk_drew ?_ | refine blk_alloc ?_ _)); refine blk_put (cs := #[.string t204, .string (⟨#[]⟩ : ByteArray), .slice none 0 0, .string (⟨#[]⟩ : ByteArray)]) ?_ 1 _ rfl; (with_reducible repeat (first | refine blk_drewN ?_ _ | refine blk_drew ?_ | refine blk_alloc ?_ _)); refine blk_put (cs := #[.string (⟨#[]⟩ : ByteArray), .string (⟨#[]⟩ : ByteArray), .slice none 0 0, .string (⟨#[]⟩ : ByteArray)]) ?_ 0 _ rfl; (with_reducible repeat (first | refine blk_drewN ?_ _ | refine blk_drew ?_ | refine blk_alloc ?_ _)); exact BK211.out) hb); have n3_ := Aside0.mk (below_step zb23 hb); clear HO208; clear BK211; clear HB; have HO208 := n0_; have HO216 := n1_; have BK211 := n2_; have HB := n3_; clear n0_ n1_ n2_ n3_; (try clear hb); (try clear hb2); (try clear hk); (try clear hi); (try clear ho0)) | ((with_reducible refine gate_dst (N := 3) rfl ?_); (try (refine gate_guard (by rfl) ?_; dsimp only)); refine box_event ?hg (N := 3) ?hd (cs := #[.string (⟨#[]⟩ : ByteArray), .string (⟨#[]⟩ : ByteArray), .slice none 0 0, .string (⟨#[]⟩ : ByteArray)]) (t := 36) ?hr ?_; (case hd => rfl); (case hg => rfl); (case hr => first | (go_simp; done) | (go_simp; rfl)); intro gb219 hg w14 hbox hb; have n0_ := Aside0.mk (Kd.R_below (by (with_reducible repeat (first | apply Kd.R_alloc | apply Kd.R_drewN | apply Kd.R_drew)); exact HO208.out) hb); have n1_ := Aside0.mk (Kd.R_below (by (with_reducible repeat (first | apply Kd.R_alloc | apply Kd.R_drewN | apply Kd.R_drew)); exact HO216.out) hb); have n2_ := Aside0.mk (blk_below (g := gb211) (o := .cells #[.string t204, .string t205, .slice Ao12 t206.length co12, .string t209] 36 (0, 0)) zb54 hb); have n3_ := Aside0.mk (below_step zb23 hb); have n4_ := Aside0.mk (hbox); have n5_ := Aside0.mk ((by rw [hg]; exact (below_size zb23) : w.heap.size ≤ gb219)); have n6_ := Aside0.mk ((by rw [hg]; exact (below_size zb23) : w.heap.size ≤ gb219)); have n7_ := Aside0.mk ((by rw [hg]; exact Nat.ne_of_lt (blk_lt (g := gb211) (o := .cells #[.string t204, .string t205, .slice Ao12 t206.length co12, .string t209] 36 (0, 0)) zb54) : gb211 ≠ gb219)); have n8_ := Aside0.mk ((by rw [hg]; exact Nat.ne_of_gt (blk_lt (g := gb211) (o := .cells #[.string t204, .string t205, .slice Ao12 t206.length co12, .string t209] 36 (0, 0)) zb54) : gb219 ≠ gb211)); clear HO208; clear HO216; clear BK211; clear HB; have HO208 := n0_; have HO216 := n1_; have BK211 := n2_; have HB := n3_; have BK219 := n4_; have GW219 := n5_; have GE219 := n6_; have NB211_219 := n7_; have NB219_211 := n8_; clear n0_ n1_ n2_ n3_ n4_ n5_ n6_ n7_ n8_; clear hb hbox hg; have hnb15 := NB219_211.out; have hnc15 := NB211_219.out; have hcz16_0 : w14.cell? ⟨gb219, 0, none⟩ = some (.string (⟨#[]⟩ : ByteArray)) := (blk_cell BK219.out 0).trans rfl; have hcz16_1 : w14.cell? ⟨gb219, 1, none⟩ = some (.string (⟨#[]⟩ : ByteArray)) := (blk_cell BK219.out 1).trans rfl; have hcz16_2 : w14.cell? ⟨gb219, 2, none⟩ = some (.slice none 0 0) := (blk_cell BK219.out 2).trans rfl; have hcz16_3 : w14.cell? ⟨gb219, 3, none⟩ = some (.string (⟨#[]⟩ : ByteArray)) := (blk_cell BK219.out 3).trans rfl; have hfz16_0 := blk_frozen BK219.out 0; have hfz16_1 := blk_frozen BK219.out 1; have hfz16_2 := blk_frozen BK219.out 2; have hfz16_3 := blk_frozen BK219.out 3; obtain ⟨Ao17, co17, eo17⟩ := Kd.R_slice HO216.out; subst eo17; have hcz18_0 : w14.cell? ⟨gb211, 0, none⟩ = some (.string t204) := (blk_cell BK211.out 0).trans rfl; have hcz18_1 : w14.cell? ⟨gb211, 1, none⟩ = some (.string t205) := (blk_cell BK211.out 1).trans rfl; have hcz18_2 : w14.cell? ⟨gb211, 2, none⟩ = some (.slice Ao12 t206.length co12) := (blk_cell BK211.out 2).trans rfl; have hcz18_3 : w14.cell? ⟨gb211, 3, none⟩ = some (.string t209) := (blk_cell BK211.out 3).trans rfl; have hfz18_0 := blk_frozen BK211.out 0; have hfz18_1 := blk_frozen BK211.out 1; have hfz18_2 := blk_frozen BK211.out 2; have hfz18_3 := blk_frozen BK211.out 3) | (go_at_call 22; (with_reducible refine (request_Slug.calls (⟨#[84, 104, 101, 32, 66, 101, 97, 99, 104, 32, 97, 116, 32, 83, 37, 67, 51, 37, 65, 56, 116, 101]⟩ : ByteArray) t220 _ ?side1 A8.out).mono ?_); (case side1 => exact Glob.below hGA.out zb41); rintro e w19 ⟨rfl, hb⟩; have n0_ := Aside0.mk (Kd.R_below (by (with_reducible repeat (first | apply Kd.R_alloc | apply Kd.R_drewN | apply Kd.R_drew)); exact (Kd.R_mono (Kd.R_far (p := ⟨gb219, 3, none⟩) (Kd.R_far (p := ⟨gb219, 2, none⟩) (Kd.R_far (p := ⟨gb219, 1, none⟩) (Kd.R_far (p := ⟨gb219, 0, none⟩) (Kd.R_types HO208.out BK219.out zb20) (fun _ hk => hk.2) (.string t212)) (fun _ hk => hk.2) (.string t213)) (fun _ hk => hk.2) (.slice Ao17 t214.length co17)) (fun _ hk => hk.2) (.string t217)) (fun _ h_ => h_.1))) hb); have n1_ := Aside0.mk (Kd.R_below (by (with_reducible repeat (first | apply Kd.R_alloc | apply Kd.R_drewN | apply Kd.R_drew)); exact (Kd.R_mono (Kd.R_far (p := ⟨gb219, 3, none⟩) (Kd.R_far (p := ⟨gb219, 2, none⟩) (Kd.R_far (p := ⟨gb219, 1, none⟩) (Kd.R_far (p := ⟨gb219, 0, none⟩) (Kd.R_types HO216.out BK219.out zb20) (fun _ hk => hk.2) (.string t212)) (fun _ hk => hk.2) (.string t213)) (fun _ hk => hk.2) (.slice Ao17 t214.length co17)) (fun _ hk => hk.2) (.string t217)) (fun _ h_ => h_.1))) hb); have n2_ := Aside0.mk (blk_below (g := gb211) (o := .cells #[.string t204, .string t205, .slice Ao12 t206.length co12, .string t209] 36 (0, 0)) (by (with_reducible repeat (first | refine blk_drewN ?_ _ | refine blk_drew ?_ | refine blk_alloc ?_ _)); refine blk_far ?_ NB211_219.out _; (with_reducible repeat (first | refine blk_drewN ?_ _ | refine blk_drew ?_ | refine blk_alloc ?_ _)); refine blk_far ?_ NB211_219.out _; (with_reducible repeat (first | refine blk_drewN ?_ _ | refine blk_drew ?_ | refine blk_alloc ?_ _)); refine blk_far ?_ NB211_219.out _; (with_reducible repeat (first | refine blk_drewN ?_ _ | refine blk_drew ?_ | refine blk_alloc ?_ _)); refine blk_far ?_ NB211_219.out _; (with_reducible repeat (first | refine blk_drewN ?_ _ | refine blk_drew ?_ | refine blk_alloc ?_ _)); exact BK211.out) hb); have n3_ := Aside0.mk (blk_below (g := gb219) (o := .cells #[.string t212, .string t213, .slice Ao17 t214.length co17, .string t217] 36 (0, 0)) (by (with_reducible repeat (first | refine blk_drewN ?_ _ | refine blk_drew ?_ | refine blk_alloc ?_ _)); refine blk_put (cs := #[.string t212, .string t213, .slice Ao17 t214.length co17, .string (⟨#[]⟩ : ByteArray)]) ?_ 3 _ rfl; (with_reducible repeat (first | refine blk_drewN ?_ _ | refine blk_drew ?_ | refine blk_alloc ?_ _)); refine blk_put (cs := #[.string t212, .string t213, .slice none 0 0, .string (⟨#[]⟩ : ByteArray)]) ?_ 2 _ rfl; (with_reducible repeat (first | refine blk_drewN ?_ _ | refine blk_drew ?_ | refine blk_alloc ?_ _)); refine blk_put (cs := #[.string t212, .string (⟨#[]⟩ : ByteArray), .slice none 0 0, .string (⟨#[]⟩ : ByteArray)]) ?_ 1 _ rfl; (with_reducible repeat (first | refine blk_drewN ?_ _ | refine blk_drew ?_ | refine blk_alloc ?_ _)); refine blk_put (cs := #[.string (⟨#[]⟩ : ByteArray), .string (⟨#[]⟩ : ByteArray), .slice none 0 0, .string (⟨#[]⟩ : ByteArray)]) ?_ 0 _ rfl; (with_reducible repeat (first | refine blk_drewN ?_ _ | refine blk_drew ?_ | refine blk_alloc ?_ _)); exact BK219.out) hb); have n4_ := Aside0.mk (below_step zb41 hb); clear HO208; clear HO216; clear BK211; clear BK219; clear HB; have HO208 := n0_; have HO216 := n1_; have BK211 := n2_; have BK219 := n3_; have HB := n4_; clear n0_ n1_ n2_ n3_ n4_; (try clear hb); (try clear hb2); (try clear hk); (try clear hi)))
      go_ret
      exact ⟨zb4, zb41⟩
     ·rw [if_neg c7] at H
      have c7b0 : (t218 == 200) = false := beq_eq_false_iff_ne.mpr c7
      have c7b1 : (t218 != 200) = true := bne_iff_ne.mpr c7
      exact absurd ((Option.some.inj H).trans hr) zb20
    ·rw [if_neg c6] at H
     have c6b0 : ((t206.length : Int) == 1) = false := beq_eq_false_iff_ne.mpr c6
     have c6b1 : ((t206.length : Int) != 1) = true := bne_iff_ne.mpr c6
     exact absurd ((Option.some.inj H).trans hr) zb20
   ·rw [if_neg c5] at H
    have c5b0 : (t205.toList == ([47] : List UInt8)) = false := beq_eq_false_iff_ne.mpr c5
    have c5b1 : (t205.toList != ([47] : List UInt8)) = true := bne_iff_ne.mpr c5
    exact absurd ((Option.some.inj H).trans hr) zb20
  ·rw [if_neg c4] at H
   have c4b0 : (t204.toList == ([71, 69, 84] : List UInt8)) = false := beq_eq_false_iff_ne.mpr c4
   have c4b1 : (t204.toList != ([71, 69, 84] : List UInt8)) = true := bne_iff_ne.mpr c4
   exact absurd ((Option.some.inj H).trans hr) zb20
 ·rw [if_neg c3] at H
  have c3b0 : (t210 == 0) = false := beq_eq_false_iff_ne.mpr c3
  have c3b1 : (t210 != 0) = true := bne_iff_ne.mpr c3
  exact absurd ((Option.some.inj H).trans hr) zb20
end Go.Proofs.YteonhdfjfjpbjaaGreatDoor.P
/- Px20 -/
namespace Go.Proofs.YteonhdfjfjpbjaaGreatDoor.P
open Go.Proofs.YteonhdfjfjpbjaaGreatDoor.B
open Go.RowKit Go.Proofs.YteonhdfjfjpbjaaGreatDoorW.PrintWords Go.Proofs.YteonhdfjfjpbjaaGreatDoorW.PrintLast Go.Proofs.YteonhdfjfjpbjaaGreatDoorW.PrintMore
attribute [local go_sem] str_leq str_gtr str_geq max2_int min2_int max_two min_two max_three min_three max_four min_four
set_option linter.unusedVariables false
set_option linter.unusedSimpArgs false
def broadsheetref18_Get.l0 : Nat → List (S49) → ByteArray → ByteArray → Int → Int → Option (ByteArray × Int)
  | 0, _, _, _, _, _ => none
  | k + 1, x0, x1, x6, x7, x8 => if x8 < (x0.length : Int) then (if 0 ≤ x8 then ((broadsheetref07_Lower.f k ((rd_T49 x0 x8).f0)).bind fun t231 => ((broadsheetref07_Lower.f k x1).bind fun t232 => (if t231.toList = t232.toList then (if x7 > 0 then (if x6.size + 2 ≤ 9223372036854775807 then (if (x6 ++ (⟨#[44, 32]⟩ : ByteArray)).size + ((rd_T49 x0 x8).f1).size ≤ 9223372036854775807 then (broadsheetref18_Get.l0 k x0 x1 ((x6 ++ (⟨#[44, 32]⟩ : ByteArray)) ++ ((rd_T49 x0 x8).f1)) (wrap64 (x7 + 1)) (wrap64 (x8 + 1))) else (none)) else (none)) else (if x6.size + ((rd_T49 x0 x8).f1).size ≤ 9223372036854775807 then (broadsheetref18_Get.l0 k x0 x1 (x6 ++ ((rd_T49 x0 x8).f1)) (wrap64 (x7 + 1)) (wrap64 (x8 + 1))) else (none))) else (broadsheetref18_Get.l0 k x0 x1 x6 x7 (wrap64 (x8 + 1)))))) else (none)) else (some (x6, x7))
def broadsheetref18_Get.f (k : Nat) (l0 : List (S49)) (a1 : ByteArray) : Option (ByteArray × Int) := broadsheetref18_Get.l0 k l0 a1 (⟨#[]⟩ : ByteArray) 0 0
set_option maxHeartbeats 8000000 in
set_option maxRecDepth 100000 in
theorem broadsheetref18_Get.calls (k : Nat) (A0 : Option Addr) (c0 : Nat) (l0 : List (S49)) (a1 : ByteArray) (r1 : ByteArray) (r2 : Int) (w : World) (hr0 : Kd.C k49 w A0 l0.length l0) (hc0 : l0.length ≤ c0) (h : broadsheetref18_Get.f k l0 a1 = some (r1, r2)) :
  Calls Tryz.prog 25 #[.slice A0 l0.length c0, .string a1] w fun e w' => e = .returned (.tuple #[.string r1, .int .i64 r2]) ∧ Below w.heap.size w w' := by
 have HR0 := Aside0.mk hr0
 have HC0 := Aside0.mk hc0
 clear hr0 hc0
 have HB := Aside0.mk (Below.refl w.heap.size w)
 have H : (broadsheetref18_Get.l0 k l0 a1 (⟨#[]⟩ : ByteArray) 0 0) = some (r1, r2) := h
 clear h
 have H' := Aside0.mk H
 clear H
 go_enter Tryz.func25, Tryz.ntmps25
 go_wp2
 first | go_loopg [6, 7, 8] k (fun kq v6 v7 v8 w' => ∃ (x6_1 : ByteArray) (x7_1 : Int) (x8_1 : Int), v6 = .string x6_1 ∧ v7 = .int .i64 x7_1 ∧ v8 = .int .i64 x8_1 ∧ Aside0 (broadsheetref18_Get.l0 kq l0 a1 x6_1 x7_1 x8_1 = some (r1, r2)) ∧ Aside0 (kq ≤ k) ∧ Aside0 (Below w.heap.size w w')) | (go_simp; go_loopg [6, 7, 8] k (fun kq v6 v7 v8 w' => ∃ (x6_1 : ByteArray) (x7_1 : Int) (x8_1 : Int), v6 = .string x6_1 ∧ v7 = .int .i64 x7_1 ∧ v8 = .int .i64 x8_1 ∧ Aside0 (broadsheetref18_Get.l0 kq l0 a1 x6_1 x7_1 x8_1 = some (r1, r2)) ∧ Aside0 (kq ≤ k) ∧ Aside0 (Below w.heap.size w w')))
 case atStart => exact ⟨((⟨#[]⟩ : ByteArray)), (0), (0), zb5, zb5, zb5, H', ⟨Nat.le_refl _⟩, ⟨by repeat (first | (with_reducible first | exact HB.out | apply below_alloc | apply pw_below_drewN | apply below_drew1) | exact HB.out)⟩⟩
 case round =>
  clear H'
  try clear c2
  try clear p2
  obtain ⟨x6_1, x7_1, x8_1, rfl, rfl, rfl, HA, HK1, HB⟩ := hrel
  cases gk with
  | zero => exact absurd HA.out (by simp [broadsheetref18_Get.l0])
  | succ k1 =>
   have H := HA.out
   clear HA
   simp only [broadsheetref18_Get.l0] at H
   by_cases c3 : x8_1 < (l0.length : Int)
   ·rw [if_pos c3] at H
    have c3b0 : decide (x8_1 < (l0.length : Int)) = true := decide_eq_true c3
    clear c3
    by_cases c4 : 0 ≤ x8_1
    ·rw [if_pos c4] at H
     have c4b0 : decide (0 ≤ x8_1) = true := decide_eq_true c4
     clear c4
     replace H := Option.bind_eq_some_iff.mp H
     obtain ⟨t231, A50, H⟩ := H
     replace H : ((broadsheetref07_Lower.f k1 a1).bind fun t232 => (if t231.toList = t232.toList then (if x7_1 > 0 then (if x6_1.size + 2 ≤ 9223372036854775807 then (if (x6_1 ++ (⟨#[44, 32]⟩ : ByteArray)).size + ((rd_T49 l0 x8_1).f1).size ≤ 9223372036854775807 then (broadsheetref18_Get.l0 k1 l0 a1 ((x6_1 ++ (⟨#[44, 32]⟩ : ByteArray)) ++ ((rd_T49 l0 x8_1).f1)) (wrap64 (x7_1 + 1)) (wrap64 (x8_1 + 1))) else (none)) else (none)) else (if x6_1.size + ((rd_T49 l0 x8_1).f1).size ≤ 9223372036854775807 then (broadsheetref18_Get.l0 k1 l0 a1 (x6_1 ++ ((rd_T49 l0 x8_1).f1)) (wrap64 (x7_1 + 1)) (wrap64 (x8_1 + 1))) else (none))) else (broadsheetref18_Get.l0 k1 l0 a1 x6_1 x7_1 (wrap64 (x8_1 + 1))))) = some (r1, r2) := H
     have A5 := Aside0.mk A50
     clear A50
     replace H := Option.bind_eq_some_iff.mp H
     obtain ⟨t232, A60, H⟩ := H
     replace H : (if t231.toList = t232.toList then (if x7_1 > 0 then (if x6_1.size + 2 ≤ 9223372036854775807 then (if (x6_1 ++ (⟨#[44, 32]⟩ : ByteArray)).size + ((rd_T49 l0 x8_1).f1).size ≤ 9223372036854775807 then (broadsheetref18_Get.l0 k1 l0 a1 ((x6_1 ++ (⟨#[44, 32]⟩ : ByteArray)) ++ ((rd_T49 l0 x8_1).f1)) (wrap64 (x7_1 + 1)) (wrap64 (x8_1 + 1))) else (none)) else (none)) else (if x6_1.size + ((rd_T49 l0 x8_1).f1).size ≤ 9223372036854775807 then (broadsheetref18_Get.l0 k1 l0 a1 (x6_1 ++ ((rd_T49 l0 x8_1).f1)) (wrap64 (x7_1 + 1)) (wrap64 (x8_1 + 1))) else (none))) else (broadsheetref18_Get.l0 k1 l0 a1 x6_1 x7_1 (wrap64 (x8_1 + 1)))) = some (r1, r2) := H
     have A6 := Aside0.mk A60
     clear A60
     by_cases c7 : t231.toList = t232.toList
     ·rw [if_pos c7] at H
      have c7b0 : (t231.toList == t232.toList) = true := beq_iff_eq.mpr c7
      have c7b1 : (t231.toList != t232.toList) = false := bne_eq_false_iff_eq.mpr c7
      clear c7
      by_cases c8 : x7_1 > 0
      ·rw [if_pos c8] at H
       have c8b0 : decide (0 < x7_1) = true := decide_eq_true c8
       clear c8
       by_cases c9 : x6_1.size + 2 ≤ 9223372036854775807
       ·rw [if_pos c9] at H
        have c9b0 := eq_true c9
        have c9b1 : decide (x6_1.size + 2 ≤ 9223372036854775807) = true := decide_eq_true c9
        try have c9b2 : (9223372036854775807 < x6_1.size + 2) = False := eq_false (Nat.not_lt.2 c9)
        by_cases c10 : (x6_1 ++ (⟨#[44, 32]⟩ : ByteArray)).size + ((rd_T49 l0 x8_1).f1).size ≤ 9223372036854775807
        ·rw [if_pos c10] at H
         have c10b0 := eq_true c10
         have c10b1 : decide ((x6_1 ++ (⟨#[44, 32]⟩ : ByteArray)).size + ((rd_T49 l0 x8_1).f1).size ≤ 9223372036854775807) = true := decide_eq_true c10
         try have c10b2 : (9223372036854775807 < (x6_1 ++ (⟨#[44, 32]⟩ : ByteArray)).size + ((rd_T49 l0 x8_1).f1).size) = False := eq_false (Nat.not_lt.2 c10)
         obtain ⟨nc10, hc10⟩ : ∃ n_ : Nat, n_ = (x6_1 ++ (⟨#[44, 32]⟩ : ByteArray)).size + ((rd_T49 l0 x8_1).f1).size := ⟨_, rfl⟩
         have c10m0 : nc10 ≤ 9223372036854775807 := by rw [hc10]; exact c10
         (first | simp [go_sem, c9b0] at hc10 | simp [go_sem] at hc10 | skip)
         rw [hc10] at c10m0
         have c10m1 := eq_false (Nat.not_lt.2 c10m0)
         have c10m2 := decide_eq_true c10m0
         clear hc10 c10m0
         have H' := Aside0.mk H
         clear H
         have p230 : 0 ≤ (x8_1 : Int) := of_decide_eq_true zb2
         have q230 : x8_1 < (l0.length : Int) := of_decide_eq_true zb2
         obtain ⟨ad230, e230, hx230_0, hx230_1⟩ := at_T49 HR0.out x8_1 p230 q230
         cases e230
         replace hx230_0 := (HB.out.cell (World.block_lt_of_cell? w _ hx230_0)).trans hx230_0
         replace hx230_1 := (HB.out.cell (World.block_lt_of_cell? w _ hx230_1)).trans hx230_1
         replace p230 := eq_true p230
         replace q230 := eq_true q230
         go_wp2_with (first | ((with_reducible refine gate_callee (f := 53) rfl ?_); refine goesL_ (some 20) rfl rfl Tryz.func53 zb12 rfl #[.string ((rd_T49 l0 x8_1).f0)] rfl zb1 ?_; (with_reducible refine (broadsheetref07_Lower.calls k1 ((rd_T49 l0 x8_1).f0) t231 _ A5.out).mono ?_); rintro e w11 ⟨rfl, hb⟩; refine ⟨_, rfl, ?_⟩; have n0_ := Aside0.mk (below_step zb0 hb); clear HB; have HB := n0_; clear n0_; (try clear hb); (try clear hb2); (try clear hk); (try clear hi)) | ((with_reducible refine gate_callee (f := 53) rfl ?_); refine goesL_ (some 22) rfl rfl Tryz.func53 zb12 rfl #[.string a1] rfl zb1 ?_; (with_reducible refine (broadsheetref07_Lower.calls k1 a1 t232 _ A6.out).mono ?_); rintro e w12 ⟨rfl, hb⟩; refine ⟨_, rfl, ?_⟩; have n0_ := Aside0.mk (below_step zb0 hb); clear HB; have HB := n0_; clear n0_; (try clear hb); (try clear hb2); (try clear hk); (try clear hi); have p233 : 0 ≤ (x8_1 : Int) := of_decide_eq_true zb2; have q233 : x8_1 < (l0.length : Int) := of_decide_eq_true zb2; obtain ⟨ad233, e233, hx233_0, hx233_1⟩ := at_T49 HR0.out x8_1 p233 q233; obtain rfl : ad230 = ad233 := (by injection e233); replace hx233_0 := (HB.out.cell (World.block_lt_of_cell? w _ hx233_0)).trans hx233_0; replace hx233_1 := (HB.out.cell (World.block_lt_of_cell? w _ hx233_1)).trans hx233_1; replace p233 := eq_true p233; replace q233 := eq_true q233))
         go_roundg k1
         case measure => have := HK1.out; omega
         case rel => exact ⟨((x6_1 ++ (⟨#[44, 32]⟩ : ByteArray)) ++ ((rd_T49 l0 x8_1).f1)), (wrap64 (x7_1 + 1)), (wrap64 (x8_1 + 1)), zb5, zb5, zb5, H', ⟨by have := HK1.out; omega⟩, ⟨by repeat (first | (with_reducible first | exact HB.out | apply below_alloc | apply pw_below_drewN | apply below_drew1) | exact HB.out)⟩⟩
        ·rw [if_neg c10] at H
         exact absurd H zb26
       ·rw [if_neg c9] at H
        exact absurd H zb26
      ·rw [if_neg c8] at H
       have c8b0 : decide (0 < x7_1) = false := decide_eq_false c8
       clear c8
       by_cases c13 : x6_1.size + ((rd_T49 l0 x8_1).f1).size ≤ 9223372036854775807
       ·rw [if_pos c13] at H
        have c13b0 := eq_true c13
        have c13b1 : decide (x6_1.size + ((rd_T49 l0 x8_1).f1).size ≤ 9223372036854775807) = true := decide_eq_true c13
        try have c13b2 : (9223372036854775807 < x6_1.size + ((rd_T49 l0 x8_1).f1).size) = False := eq_false (Nat.not_lt.2 c13)
        have H' := Aside0.mk H
        clear H
        have p230 : 0 ≤ (x8_1 : Int) := of_decide_eq_true zb2
        have q230 : x8_1 < (l0.length : Int) := of_decide_eq_true zb2
        obtain ⟨ad230, e230, hx230_0, hx230_1⟩ := at_T49 HR0.out x8_1 p230 q230
        cases e230
        replace hx230_0 := (HB.out.cell (World.block_lt_of_cell? w _ hx230_0)).trans hx230_0
        replace hx230_1 := (HB.out.cell (World.block_lt_of_cell? w _ hx230_1)).trans hx230_1
        replace p230 := eq_true p230
        replace q230 := eq_true q230
        go_wp2_with (first | ((with_reducible refine gate_callee (f := 53) rfl ?_); refine goesL_ (some 20) rfl rfl Tryz.func53 zb12 rfl #[.string ((rd_T49 l0 x8_1).f0)] rfl zb1 ?_; (with_reducible refine (broadsheetref07_Lower.calls k1 ((rd_T49 l0 x8_1).f0) t231 _ A5.out).mono ?_); rintro e w14 ⟨rfl, hb⟩; refine ⟨_, rfl, ?_⟩; have n0_ := Aside0.mk (below_step zb0 hb); clear HB; have HB := n0_; clear n0_; (try clear hb); (try clear hb2); (try clear hk); (try clear hi)) | ((with_reducible refine gate_callee (f := 53) rfl ?_); refine goesL_ (some 22) rfl rfl Tryz.func53 zb12 rfl #[.string a1] rfl zb1 ?_; (with_reducible refine (broadsheetref07_Lower.calls k1 a1 t232 _ A6.out).mono ?_); rintro e w15 ⟨rfl, hb⟩; refine ⟨_, rfl, ?_⟩; have n0_ := Aside0.mk (below_step zb0 hb); clear HB; have HB := n0_; clear n0_; (try clear hb); (try clear hb2); (try clear hk); (try clear hi); have p234 : 0 ≤ (x8_1 : Int) := of_decide_eq_true zb2; have q234 : x8_1 < (l0.length : Int) := of_decide_eq_true zb2; obtain ⟨ad234, e234, hx234_0, hx234_1⟩ := at_T49 HR0.out x8_1 p234 q234; obtain rfl : ad230 = ad234 := (by injection e234); replace hx234_0 := (HB.out.cell (World.block_lt_of_cell? w _ hx234_0)).trans hx234_0; replace hx234_1 := (HB.out.cell (World.block_lt_of_cell? w _ hx234_1)).trans hx234_1; replace p234 := eq_true p234; replace q234 := eq_true q234))
        go_roundg k1
        case measure => have := HK1.out; omega
        case rel => exact ⟨(x6_1 ++ ((rd_T49 l0 x8_1).f1)), (wrap64 (x7_1 + 1)), (wrap64 (x8_1 + 1)), zb5, zb5, zb5, H', ⟨by have := HK1.out; omega⟩, ⟨by repeat (first | (with_reducible first | exact HB.out | apply below_alloc | apply pw_below_drewN | apply below_drew1) | exact HB.out)⟩⟩
       ·rw [if_neg c13] at H
        exact absurd H zb26
     ·rw [if_neg c7] at H
      have c7b0 : (t231.toList == t232.toList) = false := beq_eq_false_iff_ne.mpr c7
      have c7b1 : (t231.toList != t232.toList) = true := bne_iff_ne.mpr c7
      have H' := Aside0.mk H
      clear H
      have p230 : 0 ≤ (x8_1 : Int) := of_decide_eq_true zb2
      have q230 : x8_1 < (l0.length : Int) := of_decide_eq_true zb2
      obtain ⟨ad230, e230, hx230_0, hx230_1⟩ := at_T49 HR0.out x8_1 p230 q230
      cases e230
      replace hx230_0 := (HB.out.cell (World.block_lt_of_cell? w _ hx230_0)).trans hx230_0
      replace hx230_1 := (HB.out.cell (World.block_lt_of_cell? w _ hx230_1)).trans hx230_1
      replace p230 := eq_true p230
      replace q230 := eq_true q230
      go_wp2_with (first | ((with_reducible refine gate_callee (f := 53) rfl ?_); refine goesL_ (some 20) rfl rfl Tryz.func53 zb12 rfl #[.string ((rd_T49 l0 x8_1).f0)] rfl zb1 ?_; (with_reducible refine (broadsheetref07_Lower.calls k1 ((rd_T49 l0 x8_1).f0) t231 _ A5.out).mono ?_); rintro e w16 ⟨rfl, hb⟩; refine ⟨_, rfl, ?_⟩; have n0_ := Aside0.mk (below_step zb0 hb); clear HB; have HB := n0_; clear n0_; (try clear hb); (try clear hb2); (try clear hk); (try clear hi)) | ((with_reducible refine gate_callee (f := 53) rfl ?_); refine goesL_ (some 22) rfl rfl Tryz.func53 zb12 rfl #[.string a1] rfl zb1 ?_; (with_reducible refine (broadsheetref07_Lower.calls k1 a1 t232 _ A6.out).mono ?_); rintro e w17 ⟨rfl, hb⟩; refine ⟨_, rfl, ?_⟩; have n0_ := Aside0.mk (below_step zb0 hb); clear HB; have HB := n0_; clear n0_; (try clear hb); (try clear hb2); (try clear hk); (try clear hi)))
      go_roundg k1
      case measure => have := HK1.out; omega
      case rel => exact ⟨(x6_1), (x7_1), (wrap64 (x8_1 + 1)), zb5, zb5, zb5, H', ⟨by have := HK1.out; omega⟩, ⟨by repeat (first | (with_reducible first | exact HB.out | apply below_alloc | apply pw_below_drewN | apply below_drew1) | exact HB.out)⟩⟩
    ·rw [if_neg c4] at H
     exact absurd H zb26
   ·rw [if_neg c3] at H
    have c3b0 : decide (x8_1 < (l0.length : Int)) = false := decide_eq_false c3
    clear c3
    simp only [Option.some.injEq, Prod.mk.injEq] at H
    obtain ⟨rfl, rfl⟩ := H
    go_wp2
    go_ret2
    exact ⟨zb4, zb0⟩
def broadsheetref03_Split.l0 : Nat → ByteArray → Int → List ByteArray → Int → Int → Option (List ByteArray)
  | 0, _, _, _, _, _ => none
  | k + 1, x0, x1, x5, x6, x7 => if x7 ≤ (x0.size : Int) then (if x7 = (x0.size : Int) then (if 0 ≤ x6 then (if x6 ≤ x7 then (if x5.length < 8796093022208 then (broadsheetref03_Split.l0 k x0 x1 (x5 ++ [x0.extract (x6 : Int).toNat (x7 : Int).toNat]) (wrap64 (x7 + 1)) (wrap64 (x7 + 1))) else (none)) else (none)) else (none)) else (if 0 ≤ x7 then (if x7 < (x0.size : Int) then (if (bt x0 x7) = x1 then (if 0 ≤ x6 then (if x6 ≤ x7 then (if x5.length < 8796093022208 then (broadsheetref03_Split.l0 k x0 x1 (x5 ++ [x0.extract (x6 : Int).toNat (x7 : Int).toNat]) (wrap64 (x7 + 1)) (wrap64 (x7 + 1))) else (none)) else (none)) else (none)) else (broadsheetref03_Split.l0 k x0 x1 x5 x6 (wrap64 (x7 + 1)))) else (none)) else (none))) else (some x5)
def broadsheetref03_Split.f (k : Nat) (a0 : ByteArray) (a1 : Int) : Option (List ByteArray) := broadsheetref03_Split.l0 k a0 a1 ([] : List ByteArray) 0 0
set_option maxHeartbeats 8000000 in
set_option maxRecDepth 100000 in
theorem broadsheetref03_Split.calls (k : Nat) (a0 : ByteArray) (a1 : Int) (r : List ByteArray) (w : World) (h : broadsheetref03_Split.f k a0 a1 = some r) :
  Calls Tryz.prog 74 #[.string a0, .int .u8 a1] w fun e w' => ∃ v0_ : Value, e = .returned (v0_) ∧ Kd.R Kd.string 9 w' w.heap.size (fun _ => True) v0_ r ∧ Below w.heap.size w w' := by
 have HB := Aside0.mk (Below.refl w.heap.size w)
 have H : (broadsheetref03_Split.l0 k a0 a1 ([] : List ByteArray) 0 0) = some r := h
 clear h
 have H' := Aside0.mk H
 clear H
 go_enter Tryz.func74, Tryz.ntmps74
 go_wp2
 first | go_loopg [5, 6, 7] k (fun kq v5 v6 v7 w' => ∃ (x5_1 : List ByteArray) (x6_1 : Int) (x7_1 : Int), v6 = .int .i64 x6_1 ∧ v7 = .int .i64 x7_1 ∧ Aside0 (broadsheetref03_Split.l0 kq a0 a1 x5_1 x6_1 x7_1 = some r) ∧ Aside0 (kq ≤ k) ∧ Aside0 (Kd.R Kd.string 9 w' w.heap.size (fun _ => True) v5 x5_1) ∧ Aside0 (Below w.heap.size w w')) | (go_simp; go_loopg [5, 6, 7] k (fun kq v5 v6 v7 w' => ∃ (x5_1 : List ByteArray) (x6_1 : Int) (x7_1 : Int), v6 = .int .i64 x6_1 ∧ v7 = .int .i64 x7_1 ∧ Aside0 (broadsheetref03_Split.l0 kq a0 a1 x5_1 x6_1 x7_1 = some r) ∧ Aside0 (kq ≤ k) ∧ Aside0 (Kd.R Kd.string 9 w' w.heap.size (fun _ => True) v5 x5_1) ∧ Aside0 (Below w.heap.size w w')))
 case atStart => exact ⟨(([] : List ByteArray)), (0), (0), zb5, zb5, H', ⟨Nat.le_refl _⟩, ⟨by first | exact Kd.R_nil _ _ _ _ _ | exact Kd.N_nil _ _ _ _ _ | exact Kd.V_nil _ _ _ _ _ | exact Kd.Q_nil _ _ _ _ _ | exact Kd.S_nil _ _ _ _ _⟩, ⟨by repeat (first | (with_reducible first | exact HB.out | apply below_alloc | apply pw_below_drewN | apply below_drew1) | exact HB.out)⟩⟩
 case round =>
  clear H'
  try clear p2
  obtain ⟨x5_1, x6_1, x7_1, rfl, rfl, HA, HK1, HO_5, HB⟩ := hrel
  cases gk with
  | zero => exact absurd HA.out (by simp [broadsheetref03_Split.l0])
  | succ k1 =>
   have H := HA.out
   clear HA
   simp only [broadsheetref03_Split.l0] at H
   by_cases c3 : x7_1 ≤ (a0.size : Int)
   ·rw [if_pos c3] at H
    have c3b0 : decide (x7_1 ≤ (a0.size : Int)) = true := decide_eq_true c3
    clear c3
    by_cases c4 : x7_1 = (a0.size : Int)
    ·rw [if_pos c4] at H
     have c4b0 : (x7_1 == (a0.size : Int)) = true := beq_iff_eq.mpr c4
     have c4b1 : (x7_1 != (a0.size : Int)) = false := bne_eq_false_iff_eq.mpr c4
     clear c4
     by_cases c5 : 0 ≤ x6_1
     ·rw [if_pos c5] at H
      have c5b0 := eq_true c5
      have c5b1 : decide (0 ≤ x6_1) = true := decide_eq_true c5
      clear c5
      by_cases c6 : x6_1 ≤ x7_1
      ·rw [if_pos c6] at H
       have c6b0 := eq_true c6
       have c6b1 : decide (x6_1 ≤ x7_1) = true := decide_eq_true c6
       clear c6
       have c7b0 := eq_true (of_decide_eq_true zb2 : x7_1 ≤ (a0.size : Int))
       by_cases c8 : x5_1.length < 8796093022208
       ·rw [if_pos c8] at H
        have LMc8 := Aside0.mk c8
        clear c8
        obtain ⟨y251, hy251⟩ : ∃ y_ : List ByteArray, y_ = (x5_1 ++ [a0.extract (x6_1 : Int).toNat (x7_1 : Int).toNat]) := ⟨_, rfl⟩
        replace H : (broadsheetref03_Split.l0 k1 a0 a1 y251 (wrap64 (x7_1 + 1)) (wrap64 (x7_1 + 1))) = some r := by first | (rw [hy251]; with_reducible exact H) | (have H2_ := (Option.bind_some _ _).symm.trans H; rw [hy251]; with_reducible exact H2_) | (have H2_ := (Option.bind_some _ _).symm.trans H; with_reducible exact H2_) | with_reducible exact H | (rw [hy251]; exact H) | exact H
        have Ny251 := Aside0.mk hy251
        clear hy251
        have H' := Aside0.mk H
        clear H
        go_wp2_with (first | ((with_reducible refine gate_builtin (b := .append) (xs := #[.tmp 25, .tmp 30]) rfl ?_); at_builtin; refine Kd.R_append Kd.string (w0 := w) w.heap.size rfl (.tmp 25) (.tmp 30) 32 9 (.string ⟨#[]⟩) 16 rfl Tryz.underlying32 info9 rfl zb20 zb16 u5 x5_1 (a0.extract (x6_1 : Int).toNat (x7_1 : Int).toNat) [.string (a0.extract (x6_1 : Int).toNat (x7_1 : Int).toNat)] (fun _ => True) (fun _ => False) rfl rfl ?aP (fun _ hk => hk.elim) ?aF ?aO ?aB ?aS ?aL ?_; (case aP => exact rfl); (case aB => exact zb0); (case aF => exact (fun _ _ => trivial)); (case aO => exact zb14); (case aS => exact (below_size zb0)); (case aL => have := LMc8.out; omega); intro v252 w9 ho hb hg hat; rw [← Ny251.out] at ho; have n0_ := Aside0.mk (hb); have n1_ := Aside0.mk (ho); clear HB; clear HO_5; have HB := n0_; have HO253 := n1_; clear n0_ n1_; clear ho hb hg hat))
        go_roundg k1
        case measure => have := HK1.out; omega
        case rel => exact ⟨(y251), (wrap64 (x7_1 + 1)), (wrap64 (x7_1 + 1)), zb5, zb5, H', ⟨by have := HK1.out; omega⟩, ⟨by (with_reducible repeat (first | apply Kd.R_alloc | apply Kd.R_drewN | apply Kd.R_drew)); exact HO253.out⟩, ⟨by repeat (first | (with_reducible first | exact HB.out | apply below_alloc | apply pw_below_drewN | apply below_drew1) | exact HB.out)⟩⟩
       ·rw [if_neg c8] at H
        exact absurd H zb26
      ·rw [if_neg c6] at H
       exact absurd H zb26
     ·rw [if_neg c5] at H
      exact absurd H zb26
    ·rw [if_neg c4] at H
     have c4b0 : (x7_1 == (a0.size : Int)) = false := beq_eq_false_iff_ne.mpr c4
     have c4b1 : (x7_1 != (a0.size : Int)) = true := bne_iff_ne.mpr c4
     by_cases c10 : 0 ≤ x7_1
     ·rw [if_pos c10] at H
      have c10b0 : decide (0 ≤ x7_1) = true := decide_eq_true c10
      clear c10
      by_cases c11 : x7_1 < (a0.size : Int)
      ·rw [if_pos c11] at H
       have c11b0 : decide (x7_1 < (a0.size : Int)) = true := decide_eq_true c11
       clear c11
       by_cases c13 : (bt a0 x7_1) = a1
       ·rw [if_pos c13] at H
        have c13b0 : ((bt a0 x7_1) == a1) = true := beq_iff_eq.mpr c13
        have c13b1 : ((bt a0 x7_1) != a1) = false := bne_eq_false_iff_eq.mpr c13
        clear c13
        by_cases c14 : 0 ≤ x6_1
        ·rw [if_pos c14] at H
         have c14b0 := eq_true c14
         have c14b1 : decide (0 ≤ x6_1) = true := decide_eq_true c14
         clear c14
         by_cases c15 : x6_1 ≤ x7_1
         ·rw [if_pos c15] at H
          have c15b0 := eq_true c15
          have c15b1 : decide (x6_1 ≤ x7_1) = true := decide_eq_true c15
          clear c15
          have c16b0 := eq_true (of_decide_eq_true zb2 : x7_1 ≤ (a0.size : Int))
          by_cases c17 : x5_1.length < 8796093022208
          ·rw [if_pos c17] at H
           have LMc17 := Aside0.mk c17
           clear c17
           obtain ⟨y254, hy254⟩ : ∃ y_ : List ByteArray, y_ = (x5_1 ++ [a0.extract (x6_1 : Int).toNat (x7_1 : Int).toNat]) := ⟨_, rfl⟩
           replace H : (broadsheetref03_Split.l0 k1 a0 a1 y254 (wrap64 (x7_1 + 1)) (wrap64 (x7_1 + 1))) = some r := by first | (rw [hy254]; with_reducible exact H) | (have H2_ := (Option.bind_some _ _).symm.trans H; rw [hy254]; with_reducible exact H2_) | (have H2_ := (Option.bind_some _ _).symm.trans H; with_reducible exact H2_) | with_reducible exact H | (rw [hy254]; exact H) | exact H
           have Ny254 := Aside0.mk hy254
           clear hy254
           have H' := Aside0.mk H
           clear H
           have p12 : 0 ≤ (x7_1 : Int) := of_decide_eq_true zb2
           have q12 : x7_1 < (a0.size : Int) := of_decide_eq_true zb2
           have hx12 := bt_at a0 x7_1
           replace p12 := eq_true p12
           replace q12 := eq_true q12
           go_wp2_with (first | ((with_reducible refine gate_builtin (b := .append) (xs := #[.tmp 25, .tmp 30]) rfl ?_); at_builtin; refine Kd.R_append Kd.string (w0 := w) w.heap.size rfl (.tmp 25) (.tmp 30) 32 9 (.string ⟨#[]⟩) 16 rfl Tryz.underlying32 info9 rfl zb20 zb16 u5 x5_1 (a0.extract (x6_1 : Int).toNat (x7_1 : Int).toNat) [.string (a0.extract (x6_1 : Int).toNat (x7_1 : Int).toNat)] (fun _ => True) (fun _ => False) rfl rfl ?aP (fun _ hk => hk.elim) ?aF ?aO ?aB ?aS ?aL ?_; (case aP => exact rfl); (case aB => exact zb0); (case aF => exact (fun _ _ => trivial)); (case aO => exact zb14); (case aS => exact (below_size zb0)); (case aL => have := LMc17.out; omega); intro v255 w18 ho hb hg hat; rw [← Ny254.out] at ho; have n0_ := Aside0.mk (hb); have n1_ := Aside0.mk (ho); clear HB; clear HO_5; have HB := n0_; have HO256 := n1_; clear n0_ n1_; clear ho hb hg hat))
           go_roundg k1
           case measure => have := HK1.out; omega
           case rel => exact ⟨(y254), (wrap64 (x7_1 + 1)), (wrap64 (x7_1 + 1)), zb5, zb5, H', ⟨by have := HK1.out; omega⟩, ⟨by (with_reducible repeat (first | apply Kd.R_alloc | apply Kd.R_drewN | apply Kd.R_drew)); exact HO256.out⟩, ⟨by repeat (first | (with_reducible first | exact HB.out | apply below_alloc | apply pw_below_drewN | apply below_drew1) | exact HB.out)⟩⟩
          ·rw [if_neg c17] at H
           exact absurd H zb26
         ·rw [if_neg c15] at H
          exact absurd H zb26
        ·rw [if_neg c14] at H
         exact absurd H zb26
       ·rw [if_neg c13] at H
        have c13b0 : ((bt a0 x7_1) == a1) = false := beq_eq_false_iff_ne.mpr c13
        have c13b1 : ((bt a0 x7_1) != a1) = true := bne_iff_ne.mpr c13
        have H' := Aside0.mk H
        clear H
        have p12 : 0 ≤ (x7_1 : Int) := of_decide_eq_true zb2
        have q12 : x7_1 < (a0.size : Int) := of_decide_eq_true zb2
        have hx12 := bt_at a0 x7_1
        replace p12 := eq_true p12
        replace q12 := eq_true q12
        go_wp2
        go_roundg k1
        case measure => have := HK1.out; omega
        case rel => exact ⟨(x5_1), (x6_1), (wrap64 (x7_1 + 1)), zb5, zb5, H', ⟨by have := HK1.out; omega⟩, ⟨by (with_reducible repeat (first | apply Kd.R_alloc | apply Kd.R_drewN | apply Kd.R_drew)); exact HO_5.out⟩, ⟨by repeat (first | (with_reducible first | exact HB.out | apply below_alloc | apply pw_below_drewN | apply below_drew1) | exact HB.out)⟩⟩
      ·rw [if_neg c11] at H
       exact absurd H zb26
     ·rw [if_neg c10] at H
      exact absurd H zb26
   ·rw [if_neg c3] at H
    have c3b0 : decide (x7_1 ≤ (a0.size : Int)) = false := decide_eq_false c3
    clear c3
    obtain rfl := Option.some.inj H
    go_wp2
    go_ret
    exact ⟨_, by first | rfl | (simp [errW_none, errW_some, bne_nil_] <;> rfl) | (simp [*, errW_none, errW_some] <;> rfl), by (with_reducible repeat (first | apply Kd.R_alloc | apply Kd.R_drewN | apply Kd.R_drew)); exact HO_5.out, zb0⟩
mutual
def broadsheetref20_target.j0 : Nat → ByteArray → Bool → Option (Bool)
  | 0, _, _ => none
  | k + 1, x0, x10 => if x10 = true then (some false) else (broadsheetref20_target.l0 k x0 0)
def broadsheetref20_target.l0 : Nat → ByteArray → Int → Option (Bool)
  | 0, _, _ => none
  | k + 1, x0, x3 => if x3 < (x0.size : Int) then (if 0 ≤ x3 then (if (bt x0 x3) < 33 then (some false) else (if (bt x0 x3) > 126 then (some false) else (if (bt x0 x3) = 35 then (some false) else (broadsheetref20_target.l0 k x0 (wrap64 (x3 + 1)))))) else (none)) else (some true)
end
def broadsheetref20_target.f (k : Nat) (a0 : ByteArray) : Option (Bool) := if a0.toList = ([] : List UInt8) then (broadsheetref20_target.j0 k a0 true) else (if 0 < (a0.size : Int) then (broadsheetref20_target.j0 k a0 ((bt a0 0) != 47)) else (none))
set_option maxHeartbeats 8000000 in
set_option maxRecDepth 100000 in
theorem broadsheetref20_target.calls (k : Nat) (a0 : ByteArray) (r : Bool) (w : World) (h : broadsheetref20_target.f k a0 = some r) :
  Calls Tryz.prog 75 #[.string a0] w fun e w' => e = .returned (.bool r) ∧ Drawn0 w w' := by
 have H : (if a0.toList = ([] : List UInt8) then (broadsheetref20_target.j0 k a0 true) else (if 0 < (a0.size : Int) then (broadsheetref20_target.j0 k a0 ((bt a0 0) != 47)) else (none))) = some r := h
 clear h
 have HC2 := Aside0.mk H
 clear H
 go_enter Tryz.func75, Tryz.ntmps75
 go_upto_region 1 with (fail)
 go_cut [10] (fun v10 wc => ∃ (kq : Nat) (x10_1 : Bool), v10 = .bool x10_1 ∧ Aside0 (broadsheetref20_target.j0 kq a0 x10_1 = some r) ∧ Aside0 (kq ≤ k) ∧ Drawn0 w wc)
 case first =>
  have H := HC2.out
  clear HC2
  by_cases c3 : a0.toList = ([] : List UInt8)
  ·rw [if_pos c3] at H
   have c3b0 : (a0.toList == ([] : List UInt8)) = true := beq_iff_eq.mpr c3
   have c3b1 : (a0.toList != ([] : List UInt8)) = false := bne_eq_false_iff_eq.mpr c3
   clear c3
   (first | rw [c3b0] | (simp only [i64_w, i32_w]; rw [c3b0]) | skip)
   have H' := Aside0.mk H
   clear H
   go_wp2
   go_meet
   case rel => exact ⟨_, (true), zb5, H', ⟨by first | omega | exact Nat.le_refl _⟩, by repeat (first | exact Drawn0.refl _ | apply Drawn0.step)⟩
  ·rw [if_neg c3] at H
   have c3b0 : (a0.toList == ([] : List UInt8)) = false := beq_eq_false_iff_ne.mpr c3
   have c3b1 : (a0.toList != ([] : List UInt8)) = true := bne_iff_ne.mpr c3
   (first | rw [c3b0] | (simp only [i64_w, i32_w]; rw [c3b0]) | skip)
   by_cases c4 : 0 < (a0.size : Int)
   ·rw [if_pos c4] at H
    have c4b0 : decide (0 < (a0.size : Int)) = true := decide_eq_true c4
    have c4b1 : decide (0 < a0.size) = true := decide_eq_true zb16
    clear c4
    have H' := Aside0.mk H
    clear H
    have p5 : 0 ≤ (0 : Int) := zb16
    have q5 : 0 < a0.size := (by have : (0 : Int) < (a0.size : Int) := of_decide_eq_true zb2; omega)
    have hx5 : ∀ h : 0 < a0.size, ((a0[0]'h).toNat : Int) = bt a0 0 := bt_at a0 0
    clear p5
    have qi5 : (0 < (a0.size : Int)) = True := eq_true (of_decide_eq_true zb2)
    replace q5 := eq_true q5
    go_wp2
    go_meet
    case rel => exact ⟨_, (((bt a0 0) != 47)), zb5, H', ⟨by first | omega | exact Nat.le_refl _⟩, by repeat (first | exact Drawn0.refl _ | apply Drawn0.step)⟩
   ·rw [if_neg c4] at H
    exact absurd H zb26
 case rest =>
  clear HC2
  try clear p2
  try clear c3
  try clear c3b0
  try clear c3b1
  try clear c4
  try clear c4b0
  try clear c4b1
  try clear p5
  try clear q5
  try clear hx5
  try clear qi5
  try clear p5
  try clear q5
  obtain ⟨kq, x10_1, rfl, HA, HJ1, ⟨mc1, rfl⟩⟩ := hcut
  cases kq with
  | zero => exact absurd HA.out (by simp [broadsheetref20_target.j0])
  | succ kj1 =>
   have H := HA.out
   clear HA
   simp only [broadsheetref20_target.j0] at H
   by_cases c6 : x10_1 = true
   ·subst c6
    replace H : (some false) = some r := by rw [if_pos rfl] at H; exact H
    obtain rfl := Option.some.inj H
    go_wp2
    go_ret
    exact ⟨by first | rfl | (simp; done) | (simp [*]; done), by repeat (first | exact Drawn0.refl _ | apply Drawn0.step)⟩
   ·replace c6 := Bool.eq_false_iff.mpr c6
    subst c6
    replace H : (broadsheetref20_target.l0 kj1 a0 0) = some r := by rw [if_neg (show ¬ (false = true) by decide)] at H; exact H
    have H' := Aside0.mk H
    clear H
    go_wp2
    first | go_loopg [3] kj1 (fun kq v3 w' => ∃ (x3_2 : Int), v3 = .int .i64 x3_2 ∧ Aside0 (broadsheetref20_target.l0 kq a0 x3_2 = some r) ∧ Aside0 (kq ≤ kj1) ∧ Drawn0 w w') | (go_simp; go_loopg [3] kj1 (fun kq v3 w' => ∃ (x3_2 : Int), v3 = .int .i64 x3_2 ∧ Aside0 (broadsheetref20_target.l0 kq a0 x3_2 = some r) ∧ Aside0 (kq ≤ kj1) ∧ Drawn0 w w'))
    case atStart => exact ⟨(0), zb5, H', ⟨Nat.le_refl _⟩, by repeat (first | exact Drawn0.refl _ | apply Drawn0.step)⟩
    case round =>
     clear H'
     try clear c1
     try clear p2
     try clear c3
     try clear c3b0
     try clear c3b1
     try clear c4
     try clear c4b0
     try clear c4b1
     try clear p5
     try clear q5
     try clear hx5
     try clear qi5
     try clear c6
     try clear p2
     try clear p5
     try clear q5
     obtain ⟨x3_2, rfl, HA, HK2, ⟨m2, rfl⟩⟩ := hrel
     cases gk with
     | zero => exact absurd HA.out (by simp [broadsheetref20_target.l0])
     | succ k2 =>
      have H := HA.out
      clear HA
      simp only [broadsheetref20_target.l0] at H
      by_cases c7 : x3_2 < (a0.size : Int)
      ·rw [if_pos c7] at H
       have c7b0 : decide (x3_2 < (a0.size : Int)) = true := decide_eq_true c7
       clear c7
       by_cases c8 : 0 ≤ x3_2
       ·rw [if_pos c8] at H
        have c8b0 : decide (0 ≤ x3_2) = true := decide_eq_true c8
        clear c8
        by_cases c10 : (bt a0 x3_2) < 33
        ·rw [if_pos c10] at H
         have c10b0 : decide ((bt a0 x3_2) < 33) = true := decide_eq_true c10
         clear c10
         obtain rfl := Option.some.inj H
         have p9 : 0 ≤ (x3_2 : Int) := of_decide_eq_true zb2
         have q9 : x3_2 < (a0.size : Int) := of_decide_eq_true zb2
         have hx9 := bt_at a0 x3_2
         replace p9 := eq_true p9
         replace q9 := eq_true q9
         go_wp2
         go_ret
         exact ⟨by first | rfl | (simp; done) | (simp [*]; done), by repeat (first | exact Drawn0.refl _ | apply Drawn0.step)⟩
        ·rw [if_neg c10] at H
         have c10b0 : decide ((bt a0 x3_2) < 33) = false := decide_eq_false c10
         clear c10
         by_cases c12 : (bt a0 x3_2) > 126
         ·rw [if_pos c12] at H
          have c12b0 : decide (126 < (bt a0 x3_2)) = true := decide_eq_true c12
          clear c12
          obtain rfl := Option.some.inj H
          have p9 : 0 ≤ (x3_2 : Int) := of_decide_eq_true zb2
          have q9 : x3_2 < (a0.size : Int) := of_decide_eq_true zb2
          have hx9 := bt_at a0 x3_2
          replace p9 := eq_true p9
          replace q9 := eq_true q9
          have p11 : 0 ≤ (x3_2 : Int) := of_decide_eq_true zb2
          have q11 : x3_2 < (a0.size : Int) := of_decide_eq_true zb2
          have hx11 := bt_at a0 x3_2
          replace p11 := eq_true p11
          replace q11 := eq_true q11
          go_wp2
          go_ret
          exact ⟨by first | rfl | (simp; done) | (simp [*]; done), by repeat (first | exact Drawn0.refl _ | apply Drawn0.step)⟩
         ·rw [if_neg c12] at H
          have c12b0 : decide (126 < (bt a0 x3_2)) = false := decide_eq_false c12
          clear c12
          by_cases c14 : (bt a0 x3_2) = 35
          ·rw [if_pos c14] at H
           have c14b0 : ((bt a0 x3_2) == 35) = true := beq_iff_eq.mpr c14
           have c14b1 : ((bt a0 x3_2) != 35) = false := bne_eq_false_iff_eq.mpr c14
           clear c14
           obtain rfl := Option.some.inj H
           have p9 : 0 ≤ (x3_2 : Int) := of_decide_eq_true zb2
           have q9 : x3_2 < (a0.size : Int) := of_decide_eq_true zb2
           have hx9 := bt_at a0 x3_2
           replace p9 := eq_true p9
           replace q9 := eq_true q9
           have p11 : 0 ≤ (x3_2 : Int) := of_decide_eq_true zb2
           have q11 : x3_2 < (a0.size : Int) := of_decide_eq_true zb2
           have hx11 := bt_at a0 x3_2
           replace p11 := eq_true p11
           replace q11 := eq_true q11
           have p13 : 0 ≤ (x3_2 : Int) := of_decide_eq_true zb2
           have q13 : x3_2 < (a0.size : Int) := of_decide_eq_true zb2
           have hx13 := bt_at a0 x3_2
           replace p13 := eq_true p13
           replace q13 := eq_true q13
           go_wp2
           go_ret
           exact ⟨by first | rfl | (simp; done) | (simp [*]; done), by repeat (first | exact Drawn0.refl _ | apply Drawn0.step)⟩
          ·rw [if_neg c14] at H
           have c14b0 : ((bt a0 x3_2) == 35) = false := beq_eq_false_iff_ne.mpr c14
           have c14b1 : ((bt a0 x3_2) != 35) = true := bne_iff_ne.mpr c14
           have H' := Aside0.mk H
           clear H
           have p9 : 0 ≤ (x3_2 : Int) := of_decide_eq_true zb2
           have q9 : x3_2 < (a0.size : Int) := of_decide_eq_true zb2
           have hx9 := bt_at a0 x3_2
           replace p9 := eq_true p9
           replace q9 := eq_true q9
           have p11 : 0 ≤ (x3_2 : Int) := of_decide_eq_true zb2
           have q11 : x3_2 < (a0.size : Int) := of_decide_eq_true zb2
           have hx11 := bt_at a0 x3_2
           replace p11 := eq_true p11
           replace q11 := eq_true q11
           have p13 : 0 ≤ (x3_2 : Int) := of_decide_eq_true zb2
           have q13 : x3_2 < (a0.size : Int) := of_decide_eq_true zb2
           have hx13 := bt_at a0 x3_2
           replace p13 := eq_true p13
           replace q13 := eq_true q13
           go_wp2
           go_roundg k2
           case measure => have := HJ1.out; have := HK2.out; omega
           case rel => exact ⟨(wrap64 (x3_2 + 1)), zb5, H', ⟨by have := HJ1.out; have := HK2.out; omega⟩, by repeat (first | exact Drawn0.refl _ | apply Drawn0.step)⟩
       ·rw [if_neg c8] at H
        exact absurd H zb26
      ·rw [if_neg c7] at H
       have c7b0 : decide (x3_2 < (a0.size : Int)) = false := decide_eq_false c7
       clear c7
       obtain rfl := Option.some.inj H
       go_wp2
       go_ret
       exact ⟨by first | rfl | (simp; done) | (simp [*]; done), by repeat (first | exact Drawn0.refl _ | apply Drawn0.step)⟩
def broadsheetref20_first.f (k : Nat) (a0 : ByteArray) : Option (ByteArray × ByteArray × Bool) := (broadsheetref03_Split.f k a0 32).bind fun t257 => (if (t257.length : Int) = 3 then (if 2 < (t257.length : Int) then (if (rdOf ByteArray.empty t257 2).toList = ([72, 84, 84, 80, 47, 49, 46, 49] : List UInt8) then (if 1 < (t257.length : Int) then ((broadsheetref20_target.f k (rdOf ByteArray.empty t257 1)).bind fun t262 => (if t262 = true then (if 0 < (t257.length : Int) then ((broadsheetref13_Token.f k (rdOf ByteArray.empty t257 0)).bind fun bt264 => (if bt264.1.toList = ([] : List UInt8) then (some (bt264.1, rdOf ByteArray.empty t257 1, false)) else (some (bt264.1, rdOf ByteArray.empty t257 1, (bt264.2.toList == ([] : List UInt8)))))) else (none)) else (some ((⟨#[]⟩ : ByteArray), (⟨#[]⟩ : ByteArray), false)))) else (none)) else (some ((⟨#[]⟩ : ByteArray), (⟨#[]⟩ : ByteArray), false))) else (none)) else (some ((⟨#[]⟩ : ByteArray), (⟨#[]⟩ : ByteArray), false)))
set_option maxHeartbeats 8000000 in
set_option maxRecDepth 100000 in
theorem broadsheetref20_first.calls (k : Nat) (a0 : ByteArray) (r1 : ByteArray) (r2 : ByteArray) (r3 : Bool) (w : World) (h : broadsheetref20_first.f k a0 = some (r1, r2, r3)) :
  Calls Tryz.prog 43 #[.string a0] w fun e w' => e = .returned (.tuple #[.string r1, .string r2, .bool r3]) ∧ Below w.heap.size w w' := by
 have HB := Aside0.mk (Below.refl w.heap.size w)
 have H : ((broadsheetref03_Split.f k a0 32).bind fun t257 => (if (t257.length : Int) = 3 then (if 2 < (t257.length : Int) then (if (rdOf ByteArray.empty t257 2).toList = ([72, 84, 84, 80, 47, 49, 46, 49] : List UInt8) then (if 1 < (t257.length : Int) then ((broadsheetref20_target.f k (rdOf ByteArray.empty t257 1)).bind fun t262 => (if t262 = true then (if 0 < (t257.length : Int) then ((broadsheetref13_Token.f k (rdOf ByteArray.empty t257 0)).bind fun bt264 => (if bt264.1.toList = ([] : List UInt8) then (some (bt264.1, rdOf ByteArray.empty t257 1, false)) else (some (bt264.1, rdOf ByteArray.empty t257 1, (bt264.2.toList == ([] : List UInt8)))))) else (none)) else (some ((⟨#[]⟩ : ByteArray), (⟨#[]⟩ : ByteArray), false)))) else (none)) else (some ((⟨#[]⟩ : ByteArray), (⟨#[]⟩ : ByteArray), false))) else (none)) else (some ((⟨#[]⟩ : ByteArray), (⟨#[]⟩ : ByteArray), false)))) = some (r1, r2, r3) := h
 clear h
 replace H := Option.bind_eq_some_iff.mp H
 obtain ⟨t257, A20, H⟩ := H
 replace H : (if (t257.length : Int) = 3 then (if 2 < (t257.length : Int) then (if (rdOf ByteArray.empty t257 2).toList = ([72, 84, 84, 80, 47, 49, 46, 49] : List UInt8) then (if 1 < (t257.length : Int) then ((broadsheetref20_target.f k (rdOf ByteArray.empty t257 1)).bind fun t262 => (if t262 = true then (if 0 < (t257.length : Int) then ((broadsheetref13_Token.f k (rdOf ByteArray.empty t257 0)).bind fun bt264 => (if bt264.1.toList = ([] : List UInt8) then (some (bt264.1, rdOf ByteArray.empty t257 1, false)) else (some (bt264.1, rdOf ByteArray.empty t257 1, (bt264.2.toList == ([] : List UInt8)))))) else (none)) else (some ((⟨#[]⟩ : ByteArray), (⟨#[]⟩ : ByteArray), false)))) else (none)) else (some ((⟨#[]⟩ : ByteArray), (⟨#[]⟩ : ByteArray), false))) else (none)) else (some ((⟨#[]⟩ : ByteArray), (⟨#[]⟩ : ByteArray), false))) = some (r1, r2, r3) := H
 have A2 := Aside0.mk A20
 clear A20
 by_cases c3 : (t257.length : Int) = 3
 ·rw [if_pos c3] at H
  have c3b0 : ((t257.length : Int) == 3) = true := beq_iff_eq.mpr c3
  have c3b1 : ((t257.length : Int) != 3) = false := bne_eq_false_iff_eq.mpr c3
  clear c3
  by_cases c4 : 2 < (t257.length : Int)
  ·rw [if_pos c4] at H
   have c4b0 : decide (2 < (t257.length : Int)) = true := decide_eq_true c4
   have c4b1 : decide (2 < t257.length) = true := decide_eq_true zb16
   clear c4
   by_cases c5 : (rdOf ByteArray.empty t257 2).toList = ([72, 84, 84, 80, 47, 49, 46, 49] : List UInt8)
   ·rw [if_pos c5] at H
    have c5b0 : ((rdOf ByteArray.empty t257 2).toList == ([72, 84, 84, 80, 47, 49, 46, 49] : List UInt8)) = true := beq_iff_eq.mpr c5
    have c5b1 : ((rdOf ByteArray.empty t257 2).toList != ([72, 84, 84, 80, 47, 49, 46, 49] : List UInt8)) = false := bne_eq_false_iff_eq.mpr c5
    clear c5
    by_cases c6 : 1 < (t257.length : Int)
    ·rw [if_pos c6] at H
     have c6b0 : decide (1 < (t257.length : Int)) = true := decide_eq_true c6
     have c6b1 : decide (1 < t257.length) = true := decide_eq_true zb16
     clear c6
     replace H := Option.bind_eq_some_iff.mp H
     obtain ⟨t262, A70, H⟩ := H
     replace H : (if t262 = true then (if 0 < (t257.length : Int) then ((broadsheetref13_Token.f k (rdOf ByteArray.empty t257 0)).bind fun bt264 => (if bt264.1.toList = ([] : List UInt8) then (some (bt264.1, rdOf ByteArray.empty t257 1, false)) else (some (bt264.1, rdOf ByteArray.empty t257 1, (bt264.2.toList == ([] : List UInt8)))))) else (none)) else (some ((⟨#[]⟩ : ByteArray), (⟨#[]⟩ : ByteArray), false))) = some (r1, r2, r3) := H
     have A7 := Aside0.mk A70
     clear A70
     by_cases c8 : t262 = true
     ·subst c8
      replace H : (if 0 < (t257.length : Int) then ((broadsheetref13_Token.f k (rdOf ByteArray.empty t257 0)).bind fun bt264 => (if bt264.1.toList = ([] : List UInt8) then (some (bt264.1, rdOf ByteArray.empty t257 1, false)) else (some (bt264.1, rdOf ByteArray.empty t257 1, (bt264.2.toList == ([] : List UInt8)))))) else (none)) = some (r1, r2, r3) := by rw [if_pos rfl] at H; exact H
      by_cases c9 : 0 < (t257.length : Int)
      ·rw [if_pos c9] at H
       have c9b0 : decide (0 < (t257.length : Int)) = true := decide_eq_true c9
       have c9b1 : decide (0 < t257.length) = true := decide_eq_true zb16
       clear c9
       replace H := Option.bind_eq_some_iff.mp H
       obtain ⟨⟨t264, t265⟩, A100, H⟩ := H
       replace H : (if t264.toList = ([] : List UInt8) then (some (t264, rdOf ByteArray.empty t257 1, false)) else (some (t264, rdOf ByteArray.empty t257 1, (t265.toList == ([] : List UInt8))))) = some (r1, r2, r3) := H
       have A10 := Aside0.mk A100
       clear A100
       by_cases c11 : t264.toList = ([] : List UInt8)
       ·rw [if_pos c11] at H
        have c11b0 : (t264.toList == ([] : List UInt8)) = true := beq_iff_eq.mpr c11
        have c11b1 : (t264.toList != ([] : List UInt8)) = false := bne_eq_false_iff_eq.mpr c11
        clear c11
        simp only [Option.some.injEq, Prod.mk.injEq] at H
        obtain ⟨rfl, rfl, rfl⟩ := H
        go_enter Tryz.func43, Tryz.ntmps43
        go_wp2_with (first | (go_at_call 74; (with_reducible refine (broadsheetref03_Split.calls k a0 32 t257 _ A2.out).mono ?_); rintro e w12 ⟨v258, rfl, ho0, hb⟩; have n0_ := Aside0.mk (Kd.R_lower ho0 (below_size zb0)); have n1_ := Aside0.mk (below_step zb0 hb); clear HB; have HO259 := n0_; have HB := n1_; clear n0_ n1_; (try clear hb); (try clear hb2); (try clear hk); (try clear hi); (try clear ho0); obtain ⟨Ao13, co13, eo13⟩ := Kd.R_slice HO259.out; subst eo13; have p260 : 0 ≤ (2 : Int) := zb16; have q260 : 2 < (t257.length : Int) := of_decide_eq_true zb2; obtain ⟨ad260, e260, hx260_0⟩ := Kd.at_string (Kd.R_reads' HO259.out).2.2 2 p260 q260; cases e260; (try simp only [show (2 : Int).toNat = 2 from rfl, Nat.reduceMul, Nat.reduceEqDiff, Go.Addr.add, ↓reduceIte] at hx260_0); have qi260 : (2 < t257.length) = True := eq_true zb16; (try rw [show ((2 : Int)).toNat = 2 from rfl] at hx260_0); replace p260 := eq_true p260; replace q260 := eq_true q260; have p261 : 0 ≤ (1 : Int) := zb16; have q261 : 1 < (t257.length : Int) := of_decide_eq_true zb2; obtain ⟨ad261, e261, hx261_0⟩ := Kd.at_string (Kd.R_reads' HO259.out).2.2 1 p261 q261; obtain rfl : ad260 = ad261 := (by injection e261); (try simp only [show (1 : Int).toNat = 1 from rfl, Nat.reduceMul, Nat.reduceEqDiff, Go.Addr.add, ↓reduceIte] at hx261_0); have qi261 : (1 < t257.length) = True := eq_true zb16; (try rw [show ((1 : Int)).toNat = 1 from rfl] at hx261_0); replace p261 := eq_true p261; replace q261 := eq_true q261; have p263 : 0 ≤ (0 : Int) := zb16; have q263 : 0 < (t257.length : Int) := of_decide_eq_true zb2; obtain ⟨ad263, e263, hx263_0⟩ := Kd.at_string (Kd.R_reads' HO259.out).2.2 0 p263 q263; obtain rfl : ad260 = ad263 := (by injection e263); have qi263 : (0 < t257.length) = True := eq_true zb16; (try rw [show ((0 : Int)).toNat = 0 from rfl] at hx263_0); (try rw [Addr.add_zero'] at hx263_0); replace p263 := eq_true p263; replace q263 := eq_true q263; have p266 : 0 ≤ (1 : Int) := zb16; have q266 : 1 < (t257.length : Int) := of_decide_eq_true zb2; obtain ⟨ad266, e266, hx266_0⟩ := Kd.at_string (Kd.R_reads' HO259.out).2.2 1 p266 q266; obtain rfl : ad260 = ad266 := (by injection e266); (try simp only [show (1 : Int).toNat = 1 from rfl, Nat.reduceMul, Nat.reduceEqDiff, Go.Addr.add, ↓reduceIte] at hx266_0); have qi266 : (1 < t257.length) = True := eq_true zb16; (try rw [show ((1 : Int)).toNat = 1 from rfl] at hx266_0); replace p266 := eq_true p266; replace q266 := eq_true q266) | (go_at_call 75; (with_reducible refine (broadsheetref20_target.calls k (rdOf ByteArray.empty t257 1) true _ A7.out).mono ?_); rintro e w' ⟨rfl, ⟨nd, rfl⟩⟩; (try first | exact ⟨rfl, _, World.drewN_drewN _ _ _⟩ | exact ⟨rfl, _, Eq.trans (World.drewN_drewN _ _ _) (congrArg (World.drewN _) (Nat.add_assoc _ _ _))⟩)) | (go_at_call 51; (with_reducible refine (broadsheetref13_Token.calls k (rdOf ByteArray.empty t257 0) t264 t265 _ A10.out).mono ?_); rintro e w' ⟨rfl, ⟨nd, rfl⟩⟩; (try first | exact ⟨rfl, _, World.drewN_drewN _ _ _⟩ | exact ⟨rfl, _, Eq.trans (World.drewN_drewN _ _ _) (congrArg (World.drewN _) (Nat.add_assoc _ _ _))⟩)))
        repeat (go_quiet (first | (go_at_call 74; (with_reducible refine (broadsheetref03_Split.calls k a0 32 t257 _ A2.out).mono ?_); rintro e w12 ⟨v258, rfl, ho0, hb⟩; have n0_ := Aside0.mk (Kd.R_lower ho0 (below_size zb0)); have n1_ := Aside0.mk (below_step zb0 hb); clear HB; have HO259 := n0_; have HB := n1_; clear n0_ n1_; (try clear hb); (try clear hb2); (try clear hk); (try clear hi); (try clear ho0); obtain ⟨Ao13, co13, eo13⟩ := Kd.R_slice HO259.out; subst eo13; have p260 : 0 ≤ (2 : Int) := zb16; have q260 : 2 < (t257.length : Int) := of_decide_eq_true zb2; obtain ⟨ad260, e260, hx260_0⟩ := Kd.at_string (Kd.R_reads' HO259.out).2.2 2 p260 q260; cases e260; (try simp only [show (2 : Int).toNat = 2 from rfl, Nat.reduceMul, Nat.reduceEqDiff, Go.Addr.add, ↓reduceIte] at hx260_0); have qi260 : (2 < t257.length) = True := eq_true zb16; (try rw [show ((2 : Int)).toNat = 2 from rfl] at hx260_0); replace p260 := eq_true p260; replace q260 := eq_true q260; have p261 : 0 ≤ (1 : Int) := zb16; have q261 : 1 < (t257.length : Int) := of_decide_eq_true zb2; obtain ⟨ad261, e261, hx261_0⟩ := Kd.at_string (Kd.R_reads' HO259.out).2.2 1 p261 q261; obtain rfl : ad260 = ad261 := (by injection e261); (try simp only [show (1 : Int).toNat = 1 from rfl, Nat.reduceMul, Nat.reduceEqDiff, Go.Addr.add, ↓reduceIte] at hx261_0); have qi261 : (1 < t257.length) = True := eq_true zb16; (try rw [show ((1 : Int)).toNat = 1 from rfl] at hx261_0); replace p261 := eq_true p261; replace q261 := eq_true q261; have p263 : 0 ≤ (0 : Int) := zb16; have q263 : 0 < (t257.length : Int) := of_decide_eq_true zb2; obtain ⟨ad263, e263, hx263_0⟩ := Kd.at_string (Kd.R_reads' HO259.out).2.2 0 p263 q263; obtain rfl : ad260 = ad263 := (by injection e263); have qi263 : (0 < t257.length) = True := eq_true zb16; (try rw [show ((0 : Int)).toNat = 0 from rfl] at hx263_0); (try rw [Addr.add_zero'] at hx263_0); replace p263 := eq_true p263; replace q263 := eq_true q263; have p266 : 0 ≤ (1 : Int) := zb16; have q266 : 1 < (t257.length : Int) := of_decide_eq_true zb2; obtain ⟨ad266, e266, hx266_0⟩ := Kd.at_string (Kd.R_reads' HO259.out).2.2 1 p266 q266; obtain rfl : ad260 = ad266 := (by injection e266); (try simp only [show (1 : Int).toNat = 1 from rfl, Nat.reduceMul, Nat.reduceEqDiff, Go.Addr.add, ↓reduceIte] at hx266_0); have qi266 : (1 < t257.length) = True := eq_true zb16; (try rw [show ((1 : Int)).toNat = 1 from rfl] at hx266_0); replace p266 := eq_true p266; replace q266 := eq_true q266) | (go_at_call 75; (with_reducible refine (broadsheetref20_target.calls k (rdOf ByteArray.empty t257 1) true _ A7.out).mono ?_); rintro e w' ⟨rfl, ⟨nd, rfl⟩⟩; (try first | exact ⟨rfl, _, World.drewN_drewN _ _ _⟩ | exact ⟨rfl, _, Eq.trans (World.drewN_drewN _ _ _) (congrArg (World.drewN _) (Nat.add_assoc _ _ _))⟩)) | (go_at_call 51; (with_reducible refine (broadsheetref13_Token.calls k (rdOf ByteArray.empty t257 0) t264 t265 _ A10.out).mono ?_); rintro e w' ⟨rfl, ⟨nd, rfl⟩⟩; (try first | exact ⟨rfl, _, World.drewN_drewN _ _ _⟩ | exact ⟨rfl, _, Eq.trans (World.drewN_drewN _ _ _) (congrArg (World.drewN _) (Nat.add_assoc _ _ _))⟩))); try go_wp2_with (first | (go_at_call 74; (with_reducible refine (broadsheetref03_Split.calls k a0 32 t257 _ A2.out).mono ?_); rintro e w12 ⟨v258, rfl, ho0, hb⟩; have n0_ := Aside0.mk (Kd.R_lower ho0 (below_size zb0)); have n1_ := Aside0.mk (below_step zb0 hb); clear HB; have HO259 := n0_; have HB := n1_; clear n0_ n1_; (try clear hb); (try clear hb2); (try clear hk); (try clear hi); (try clear ho0); obtain ⟨Ao13, co13, eo13⟩ := Kd.R_slice HO259.out; subst eo13; have p260 : 0 ≤ (2 : Int) := zb16; have q260 : 2 < (t257.length : Int) := of_decide_eq_true zb2; obtain ⟨ad260, e260, hx260_0⟩ := Kd.at_string (Kd.R_reads' HO259.out).2.2 2 p260 q260; cases e260; (try simp only [show (2 : Int).toNat = 2 from rfl, Nat.reduceMul, Nat.reduceEqDiff, Go.Addr.add, ↓reduceIte] at hx260_0); have qi260 : (2 < t257.length) = True := eq_true zb16; (try rw [show ((2 : Int)).toNat = 2 from rfl] at hx260_0); replace p260 := eq_true p260; replace q260 := eq_true q260; have p261 : 0 ≤ (1 : Int) := zb16; have q261 : 1 < (t257.length : Int) := of_decide_eq_true zb2; obtain ⟨ad261, e261, hx261_0⟩ := Kd.at_string (Kd.R_reads' HO259.out).2.2 1 p261 q261; obtain rfl : ad260 = ad261 := (by injection e261); (try simp only [show (1 : Int).toNat = 1 from rfl, Nat.reduceMul, Nat.reduceEqDiff, Go.Addr.add, ↓reduceIte] at hx261_0); have qi261 : (1 < t257.length) = True := eq_true zb16; (try rw [show ((1 : Int)).toNat = 1 from rfl] at hx261_0); replace p261 := eq_true p261; replace q261 := eq_true q261; have p263 : 0 ≤ (0 : Int) := zb16; have q263 : 0 < (t257.length : Int) := of_decide_eq_true zb2; obtain ⟨ad263, e263, hx263_0⟩ := Kd.at_string (Kd.R_reads' HO259.out).2.2 0 p263 q263; obtain rfl : ad260 = ad263 := (by injection e263); have qi263 : (0 < t257.length) = True := eq_true zb16; (try rw [show ((0 : Int)).toNat = 0 from rfl] at hx263_0); (try rw [Addr.add_zero'] at hx263_0); replace p263 := eq_true p263; replace q263 := eq_true q263; have p266 : 0 ≤ (1 : Int) := zb16; have q266 : 1 < (t257.length : Int) := of_decide_eq_true zb2; obtain ⟨ad266, e266, hx266_0⟩ := Kd.at_string (Kd.R_reads' HO259.out).2.2 1 p266 q266; obtain rfl : ad260 = ad266 := (by injection e266); (try simp only [show (1 : Int).toNat = 1 from rfl, Nat.reduceMul, Nat.reduceEqDiff, Go.Addr.add, ↓reduceIte] at hx266_0); have qi266 : (1 < t257.length) = True := eq_true zb16; (try rw [show ((1 : Int)).toNat = 1 from rfl] at hx266_0); replace p266 := eq_true p266; replace q266 := eq_true q266) | (go_at_call 75; (with_reducible refine (broadsheetref20_target.calls k (rdOf ByteArray.empty t257 1) true _ A7.out).mono ?_); rintro e w' ⟨rfl, ⟨nd, rfl⟩⟩; (try first | exact ⟨rfl, _, World.drewN_drewN _ _ _⟩ | exact ⟨rfl, _, Eq.trans (World.drewN_drewN _ _ _) (congrArg (World.drewN _) (Nat.add_assoc _ _ _))⟩)) | (go_at_call 51; (with_reducible refine (broadsheetref13_Token.calls k (rdOf ByteArray.empty t257 0) t264 t265 _ A10.out).mono ?_); rintro e w' ⟨rfl, ⟨nd, rfl⟩⟩; (try first | exact ⟨rfl, _, World.drewN_drewN _ _ _⟩ | exact ⟨rfl, _, Eq.trans (World.drewN_drewN _ _ _) (congrArg (World.drewN _) (Nat.add_assoc _ _ _))⟩))))
        go_ret3
        exact ⟨zb4, zb0⟩
       ·rw [if_neg c11] at H
        have c11b0 : (t264.toList == ([] : List UInt8)) = false := beq_eq_false_iff_ne.mpr c11
        have c11b1 : (t264.toList != ([] : List UInt8)) = true := bne_iff_ne.mpr c11
        simp only [Option.some.injEq, Prod.mk.injEq] at H
        obtain ⟨rfl, rfl, rfl⟩ := H
        go_enter Tryz.func43, Tryz.ntmps43
        go_wp2_with (first | (go_at_call 74; (with_reducible refine (broadsheetref03_Split.calls k a0 32 t257 _ A2.out).mono ?_); rintro e w14 ⟨v258, rfl, ho0, hb⟩; have n0_ := Aside0.mk (Kd.R_lower ho0 (below_size zb0)); have n1_ := Aside0.mk (below_step zb0 hb); clear HB; have HO259 := n0_; have HB := n1_; clear n0_ n1_; (try clear hb); (try clear hb2); (try clear hk); (try clear hi); (try clear ho0); obtain ⟨Ao15, co15, eo15⟩ := Kd.R_slice HO259.out; subst eo15; have p260 : 0 ≤ (2 : Int) := zb16; have q260 : 2 < (t257.length : Int) := of_decide_eq_true zb2; obtain ⟨ad260, e260, hx260_0⟩ := Kd.at_string (Kd.R_reads' HO259.out).2.2 2 p260 q260; cases e260; (try simp only [show (2 : Int).toNat = 2 from rfl, Nat.reduceMul, Nat.reduceEqDiff, Go.Addr.add, ↓reduceIte] at hx260_0); have qi260 : (2 < t257.length) = True := eq_true zb16; (try rw [show ((2 : Int)).toNat = 2 from rfl] at hx260_0); replace p260 := eq_true p260; replace q260 := eq_true q260; have p261 : 0 ≤ (1 : Int) := zb16; have q261 : 1 < (t257.length : Int) := of_decide_eq_true zb2; obtain ⟨ad261, e261, hx261_0⟩ := Kd.at_string (Kd.R_reads' HO259.out).2.2 1 p261 q261; obtain rfl : ad260 = ad261 := (by injection e261); (try simp only [show (1 : Int).toNat = 1 from rfl, Nat.reduceMul, Nat.reduceEqDiff, Go.Addr.add, ↓reduceIte] at hx261_0); have qi261 : (1 < t257.length) = True := eq_true zb16; (try rw [show ((1 : Int)).toNat = 1 from rfl] at hx261_0); replace p261 := eq_true p261; replace q261 := eq_true q261; have p263 : 0 ≤ (0 : Int) := zb16; have q263 : 0 < (t257.length : Int) := of_decide_eq_true zb2; obtain ⟨ad263, e263, hx263_0⟩ := Kd.at_string (Kd.R_reads' HO259.out).2.2 0 p263 q263; obtain rfl : ad260 = ad263 := (by injection e263); have qi263 : (0 < t257.length) = True := eq_true zb16; (try rw [show ((0 : Int)).toNat = 0 from rfl] at hx263_0); (try rw [Addr.add_zero'] at hx263_0); replace p263 := eq_true p263; replace q263 := eq_true q263; have p266 : 0 ≤ (1 : Int) := zb16; have q266 : 1 < (t257.length : Int) := of_decide_eq_true zb2; obtain ⟨ad266, e266, hx266_0⟩ := Kd.at_string (Kd.R_reads' HO259.out).2.2 1 p266 q266; obtain rfl : ad260 = ad266 := (by injection e266); (try simp only [show (1 : Int).toNat = 1 from rfl, Nat.reduceMul, Nat.reduceEqDiff, Go.Addr.add, ↓reduceIte] at hx266_0); have qi266 : (1 < t257.length) = True := eq_true zb16; (try rw [show ((1 : Int)).toNat = 1 from rfl] at hx266_0); replace p266 := eq_true p266; replace q266 := eq_true q266) | (go_at_call 75; (with_reducible refine (broadsheetref20_target.calls k (rdOf ByteArray.empty t257 1) true _ A7.out).mono ?_); rintro e w' ⟨rfl, ⟨nd, rfl⟩⟩; (try first | exact ⟨rfl, _, World.drewN_drewN _ _ _⟩ | exact ⟨rfl, _, Eq.trans (World.drewN_drewN _ _ _) (congrArg (World.drewN _) (Nat.add_assoc _ _ _))⟩)) | (go_at_call 51; (with_reducible refine (broadsheetref13_Token.calls k (rdOf ByteArray.empty t257 0) t264 t265 _ A10.out).mono ?_); rintro e w' ⟨rfl, ⟨nd, rfl⟩⟩; (try first | exact ⟨rfl, _, World.drewN_drewN _ _ _⟩ | exact ⟨rfl, _, Eq.trans (World.drewN_drewN _ _ _) (congrArg (World.drewN _) (Nat.add_assoc _ _ _))⟩)))
        repeat (go_quiet (first | (go_at_call 74; (with_reducible refine (broadsheetref03_Split.calls k a0 32 t257 _ A2.out).mono ?_); rintro e w14 ⟨v258, rfl, ho0, hb⟩; have n0_ := Aside0.mk (Kd.R_lower ho0 (below_size zb0)); have n1_ := Aside0.mk (below_step zb0 hb); clear HB; have HO259 := n0_; have HB := n1_; clear n0_ n1_; (try clear hb); (try clear hb2); (try clear hk); (try clear hi); (try clear ho0); obtain ⟨Ao15, co15, eo15⟩ := Kd.R_slice HO259.out; subst eo15; have p260 : 0 ≤ (2 : Int) := zb16; have q260 : 2 < (t257.length : Int) := of_decide_eq_true zb2; obtain ⟨ad260, e260, hx260_0⟩ := Kd.at_string (Kd.R_reads' HO259.out).2.2 2 p260 q260; cases e260; (try simp only [show (2 : Int).toNat = 2 from rfl, Nat.reduceMul, Nat.reduceEqDiff, Go.Addr.add, ↓reduceIte] at hx260_0); have qi260 : (2 < t257.length) = True := eq_true zb16; (try rw [show ((2 : Int)).toNat = 2 from rfl] at hx260_0); replace p260 := eq_true p260; replace q260 := eq_true q260; have p261 : 0 ≤ (1 : Int) := zb16; have q261 : 1 < (t257.length : Int) := of_decide_eq_true zb2; obtain ⟨ad261, e261, hx261_0⟩ := Kd.at_string (Kd.R_reads' HO259.out).2.2 1 p261 q261; obtain rfl : ad260 = ad261 := (by injection e261); (try simp only [show (1 : Int).toNat = 1 from rfl, Nat.reduceMul, Nat.reduceEqDiff, Go.Addr.add, ↓reduceIte] at hx261_0); have qi261 : (1 < t257.length) = True := eq_true zb16; (try rw [show ((1 : Int)).toNat = 1 from rfl] at hx261_0); replace p261 := eq_true p261; replace q261 := eq_true q261; have p263 : 0 ≤ (0 : Int) := zb16; have q263 : 0 < (t257.length : Int) := of_decide_eq_true zb2; obtain ⟨ad263, e263, hx263_0⟩ := Kd.at_string (Kd.R_reads' HO259.out).2.2 0 p263 q263; obtain rfl : ad260 = ad263 := (by injection e263); have qi263 : (0 < t257.length) = True := eq_true zb16; (try rw [show ((0 : Int)).toNat = 0 from rfl] at hx263_0); (try rw [Addr.add_zero'] at hx263_0); replace p263 := eq_true p263; replace q263 := eq_true q263; have p266 : 0 ≤ (1 : Int) := zb16; have q266 : 1 < (t257.length : Int) := of_decide_eq_true zb2; obtain ⟨ad266, e266, hx266_0⟩ := Kd.at_string (Kd.R_reads' HO259.out).2.2 1 p266 q266; obtain rfl : ad260 = ad266 := (by injection e266); (try simp only [show (1 : Int).toNat = 1 from rfl, Nat.reduceMul, Nat.reduceEqDiff, Go.Addr.add, ↓reduceIte] at hx266_0); have qi266 : (1 < t257.length) = True := eq_true zb16; (try rw [show ((1 : Int)).toNat = 1 from rfl] at hx266_0); replace p266 := eq_true p266; replace q266 := eq_true q266) | (go_at_call 75; (with_reducible refine (broadsheetref20_target.calls k (rdOf ByteArray.empty t257 1) true _ A7.out).mono ?_); rintro e w' ⟨rfl, ⟨nd, rfl⟩⟩; (try first | exact ⟨rfl, _, World.drewN_drewN _ _ _⟩ | exact ⟨rfl, _, Eq.trans (World.drewN_drewN _ _ _) (congrArg (World.drewN _) (Nat.add_assoc _ _ _))⟩)) | (go_at_call 51; (with_reducible refine (broadsheetref13_Token.calls k (rdOf ByteArray.empty t257 0) t264 t265 _ A10.out).mono ?_); rintro e w' ⟨rfl, ⟨nd, rfl⟩⟩; (try first | exact ⟨rfl, _, World.drewN_drewN _ _ _⟩ | exact ⟨rfl, _, Eq.trans (World.drewN_drewN _ _ _) (congrArg (World.drewN _) (Nat.add_assoc _ _ _))⟩))); try go_wp2_with (first | (go_at_call 74; (with_reducible refine (broadsheetref03_Split.calls k a0 32 t257 _ A2.out).mono ?_); rintro e w14 ⟨v258, rfl, ho0, hb⟩; have n0_ := Aside0.mk (Kd.R_lower ho0 (below_size zb0)); have n1_ := Aside0.mk (below_step zb0 hb); clear HB; have HO259 := n0_; have HB := n1_; clear n0_ n1_; (try clear hb); (try clear hb2); (try clear hk); (try clear hi); (try clear ho0); obtain ⟨Ao15, co15, eo15⟩ := Kd.R_slice HO259.out; subst eo15; have p260 : 0 ≤ (2 : Int) := zb16; have q260 : 2 < (t257.length : Int) := of_decide_eq_true zb2; obtain ⟨ad260, e260, hx260_0⟩ := Kd.at_string (Kd.R_reads' HO259.out).2.2 2 p260 q260; cases e260; (try simp only [show (2 : Int).toNat = 2 from rfl, Nat.reduceMul, Nat.reduceEqDiff, Go.Addr.add, ↓reduceIte] at hx260_0); have qi260 : (2 < t257.length) = True := eq_true zb16; (try rw [show ((2 : Int)).toNat = 2 from rfl] at hx260_0); replace p260 := eq_true p260; replace q260 := eq_true q260; have p261 : 0 ≤ (1 : Int) := zb16; have q261 : 1 < (t257.length : Int) := of_decide_eq_true zb2; obtain ⟨ad261, e261, hx261_0⟩ := Kd.at_string (Kd.R_reads' HO259.out).2.2 1 p261 q261; obtain rfl : ad260 = ad261 := (by injection e261); (try simp only [show (1 : Int).toNat = 1 from rfl, Nat.reduceMul, Nat.reduceEqDiff, Go.Addr.add, ↓reduceIte] at hx261_0); have qi261 : (1 < t257.length) = True := eq_true zb16; (try rw [show ((1 : Int)).toNat = 1 from rfl] at hx261_0); replace p261 := eq_true p261; replace q261 := eq_true q261; have p263 : 0 ≤ (0 : Int) := zb16; have q263 : 0 < (t257.length : Int) := of_decide_eq_true zb2; obtain ⟨ad263, e263, hx263_0⟩ := Kd.at_string (Kd.R_reads' HO259.out).2.2 0 p263 q263; obtain rfl : ad260 = ad263 := (by injection e263); have qi263 : (0 < t257.length) = True := eq_true zb16; (try rw [show ((0 : Int)).toNat = 0 from rfl] at hx263_0); (try rw [Addr.add_zero'] at hx263_0); replace p263 := eq_true p263; replace q263 := eq_true q263; have p266 : 0 ≤ (1 : Int) := zb16; have q266 : 1 < (t257.length : Int) := of_decide_eq_true zb2; obtain ⟨ad266, e266, hx266_0⟩ := Kd.at_string (Kd.R_reads' HO259.out).2.2 1 p266 q266; obtain rfl : ad260 = ad266 := (by injection e266); (try simp only [show (1 : Int).toNat = 1 from rfl, Nat.reduceMul, Nat.reduceEqDiff, Go.Addr.add, ↓reduceIte] at hx266_0); have qi266 : (1 < t257.length) = True := eq_true zb16; (try rw [show ((1 : Int)).toNat = 1 from rfl] at hx266_0); replace p266 := eq_true p266; replace q266 := eq_true q266) | (go_at_call 75; (with_reducible refine (broadsheetref20_target.calls k (rdOf ByteArray.empty t257 1) true _ A7.out).mono ?_); rintro e w' ⟨rfl, ⟨nd, rfl⟩⟩; (try first | exact ⟨rfl, _, World.drewN_drewN _ _ _⟩ | exact ⟨rfl, _, Eq.trans (World.drewN_drewN _ _ _) (congrArg (World.drewN _) (Nat.add_assoc _ _ _))⟩)) | (go_at_call 51; (with_reducible refine (broadsheetref13_Token.calls k (rdOf ByteArray.empty t257 0) t264 t265 _ A10.out).mono ?_); rintro e w' ⟨rfl, ⟨nd, rfl⟩⟩; (try first | exact ⟨rfl, _, World.drewN_drewN _ _ _⟩ | exact ⟨rfl, _, Eq.trans (World.drewN_drewN _ _ _) (congrArg (World.drewN _) (Nat.add_assoc _ _ _))⟩))))
        go_ret3
        exact ⟨zb4, zb0⟩
      ·rw [if_neg c9] at H
       exact absurd H zb26
     ·replace c8 := Bool.eq_false_iff.mpr c8
      subst c8
      replace H : (some ((⟨#[]⟩ : ByteArray), (⟨#[]⟩ : ByteArray), false)) = some (r1, r2, r3) := by rw [if_neg (show ¬ (false = true) by decide)] at H; exact H
      simp only [Option.some.injEq, Prod.mk.injEq] at H
      obtain ⟨rfl, rfl, rfl⟩ := H
      go_enter Tryz.func43, Tryz.ntmps43
      go_wp2_with (first | (go_at_call 74; (with_reducible refine (broadsheetref03_Split.calls k a0 32 t257 _ A2.out).mono ?_); rintro e w16 ⟨v258, rfl, ho0, hb⟩; have n0_ := Aside0.mk (Kd.R_lower ho0 (below_size zb0)); have n1_ := Aside0.mk (below_step zb0 hb); clear HB; have HO259 := n0_; have HB := n1_; clear n0_ n1_; (try clear hb); (try clear hb2); (try clear hk); (try clear hi); (try clear ho0); obtain ⟨Ao17, co17, eo17⟩ := Kd.R_slice HO259.out; subst eo17; have p260 : 0 ≤ (2 : Int) := zb16; have q260 : 2 < (t257.length : Int) := of_decide_eq_true zb2; obtain ⟨ad260, e260, hx260_0⟩ := Kd.at_string (Kd.R_reads' HO259.out).2.2 2 p260 q260; cases e260; (try simp only [show (2 : Int).toNat = 2 from rfl, Nat.reduceMul, Nat.reduceEqDiff, Go.Addr.add, ↓reduceIte] at hx260_0); have qi260 : (2 < t257.length) = True := eq_true zb16; (try rw [show ((2 : Int)).toNat = 2 from rfl] at hx260_0); replace p260 := eq_true p260; replace q260 := eq_true q260; have p261 : 0 ≤ (1 : Int) := zb16; have q261 : 1 < (t257.length : Int) := of_decide_eq_true zb2; obtain ⟨ad261, e261, hx261_0⟩ := Kd.at_string (Kd.R_reads' HO259.out).2.2 1 p261 q261; obtain rfl : ad260 = ad261 := (by injection e261); (try simp only [show (1 : Int).toNat = 1 from rfl, Nat.reduceMul, Nat.reduceEqDiff, Go.Addr.add, ↓reduceIte] at hx261_0); have qi261 : (1 < t257.length) = True := eq_true zb16; (try rw [show ((1 : Int)).toNat = 1 from rfl] at hx261_0); replace p261 := eq_true p261; replace q261 := eq_true q261) | (go_at_call 75; (with_reducible refine (broadsheetref20_target.calls k (rdOf ByteArray.empty t257 1) false _ A7.out).mono ?_); rintro e w' ⟨rfl, ⟨nd, rfl⟩⟩; (try first | exact ⟨rfl, _, World.drewN_drewN _ _ _⟩ | exact ⟨rfl, _, Eq.trans (World.drewN_drewN _ _ _) (congrArg (World.drewN _) (Nat.add_assoc _ _ _))⟩)))
      repeat (go_quiet (first | (go_at_call 74; (with_reducible refine (broadsheetref03_Split.calls k a0 32 t257 _ A2.out).mono ?_); rintro e w16 ⟨v258, rfl, ho0, hb⟩; have n0_ := Aside0.mk (Kd.R_lower ho0 (below_size zb0)); have n1_ := Aside0.mk (below_step zb0 hb); clear HB; have HO259 := n0_; have HB := n1_; clear n0_ n1_; (try clear hb); (try clear hb2); (try clear hk); (try clear hi); (try clear ho0); obtain ⟨Ao17, co17, eo17⟩ := Kd.R_slice HO259.out; subst eo17; have p260 : 0 ≤ (2 : Int) := zb16; have q260 : 2 < (t257.length : Int) := of_decide_eq_true zb2; obtain ⟨ad260, e260, hx260_0⟩ := Kd.at_string (Kd.R_reads' HO259.out).2.2 2 p260 q260; cases e260; (try simp only [show (2 : Int).toNat = 2 from rfl, Nat.reduceMul, Nat.reduceEqDiff, Go.Addr.add, ↓reduceIte] at hx260_0); have qi260 : (2 < t257.length) = True := eq_true zb16; (try rw [show ((2 : Int)).toNat = 2 from rfl] at hx260_0); replace p260 := eq_true p260; replace q260 := eq_true q260; have p261 : 0 ≤ (1 : Int) := zb16; have q261 : 1 < (t257.length : Int) := of_decide_eq_true zb2; obtain ⟨ad261, e261, hx261_0⟩ := Kd.at_string (Kd.R_reads' HO259.out).2.2 1 p261 q261; obtain rfl : ad260 = ad261 := (by injection e261); (try simp only [show (1 : Int).toNat = 1 from rfl, Nat.reduceMul, Nat.reduceEqDiff, Go.Addr.add, ↓reduceIte] at hx261_0); have qi261 : (1 < t257.length) = True := eq_true zb16; (try rw [show ((1 : Int)).toNat = 1 from rfl] at hx261_0); replace p261 := eq_true p261; replace q261 := eq_true q261) | (go_at_call 75; (with_reducible refine (broadsheetref20_target.calls k (rdOf ByteArray.empty t257 1) false _ A7.out).mono ?_); rintro e w' ⟨rfl, ⟨nd, rfl⟩⟩; (try first | exact ⟨rfl, _, World.drewN_drewN _ _ _⟩ | exact ⟨rfl, _, Eq.trans (World.drewN_drewN _ _ _) (congrArg (World.drewN _) (Nat.add_assoc _ _ _))⟩))); try go_wp2_with (first | (go_at_call 74; (with_reducible refine (broadsheetref03_Split.calls k a0 32 t257 _ A2.out).mono ?_); rintro e w16 ⟨v258, rfl, ho0, hb⟩; have n0_ := Aside0.mk (Kd.R_lower ho0 (below_size zb0)); have n1_ := Aside0.mk (below_step zb0 hb); clear HB; have HO259 := n0_; have HB := n1_; clear n0_ n1_; (try clear hb); (try clear hb2); (try clear hk); (try clear hi); (try clear ho0); obtain ⟨Ao17, co17, eo17⟩ := Kd.R_slice HO259.out; subst eo17; have p260 : 0 ≤ (2 : Int) := zb16; have q260 : 2 < (t257.length : Int) := of_decide_eq_true zb2; obtain ⟨ad260, e260, hx260_0⟩ := Kd.at_string (Kd.R_reads' HO259.out).2.2 2 p260 q260; cases e260; (try simp only [show (2 : Int).toNat = 2 from rfl, Nat.reduceMul, Nat.reduceEqDiff, Go.Addr.add, ↓reduceIte] at hx260_0); have qi260 : (2 < t257.length) = True := eq_true zb16; (try rw [show ((2 : Int)).toNat = 2 from rfl] at hx260_0); replace p260 := eq_true p260; replace q260 := eq_true q260; have p261 : 0 ≤ (1 : Int) := zb16; have q261 : 1 < (t257.length : Int) := of_decide_eq_true zb2; obtain ⟨ad261, e261, hx261_0⟩ := Kd.at_string (Kd.R_reads' HO259.out).2.2 1 p261 q261; obtain rfl : ad260 = ad261 := (by injection e261); (try simp only [show (1 : Int).toNat = 1 from rfl, Nat.reduceMul, Nat.reduceEqDiff, Go.Addr.add, ↓reduceIte] at hx261_0); have qi261 : (1 < t257.length) = True := eq_true zb16; (try rw [show ((1 : Int)).toNat = 1 from rfl] at hx261_0); replace p261 := eq_true p261; replace q261 := eq_true q261) | (go_at_call 75; (with_reducible refine (broadsheetref20_target.calls k (rdOf ByteArray.empty t257 1) false _ A7.out).mono ?_); rintro e w' ⟨rfl, ⟨nd, rfl⟩⟩; (try first | exact ⟨rfl, _, World.drewN_drewN _ _ _⟩ | exact ⟨rfl, _, Eq.trans (World.drewN_drewN _ _ _) (congrArg (World.drewN _) (Nat.add_assoc _ _ _))⟩))))
      go_ret3
      exact ⟨zb4, zb0⟩
    ·rw [if_neg c6] at H
     exact absurd H zb26
   ·rw [if_neg c5] at H
    have c5b0 : ((rdOf ByteArray.empty t257 2).toList == ([72, 84, 84, 80, 47, 49, 46, 49] : List UInt8)) = false := beq_eq_false_iff_ne.mpr c5
    have c5b1 : ((rdOf ByteArray.empty t257 2).toList != ([72, 84, 84, 80, 47, 49, 46, 49] : List UInt8)) = true := bne_iff_ne.mpr c5
    simp only [Option.some.injEq, Prod.mk.injEq] at H
    obtain ⟨rfl, rfl, rfl⟩ := H
    go_enter Tryz.func43, Tryz.ntmps43
    go_wp2_with (first | (go_at_call 74; (with_reducible refine (broadsheetref03_Split.calls k a0 32 t257 _ A2.out).mono ?_); rintro e w18 ⟨v258, rfl, ho0, hb⟩; have n0_ := Aside0.mk (Kd.R_lower ho0 (below_size zb0)); have n1_ := Aside0.mk (below_step zb0 hb); clear HB; have HO259 := n0_; have HB := n1_; clear n0_ n1_; (try clear hb); (try clear hb2); (try clear hk); (try clear hi); (try clear ho0); obtain ⟨Ao19, co19, eo19⟩ := Kd.R_slice HO259.out; subst eo19; have p260 : 0 ≤ (2 : Int) := zb16; have q260 : 2 < (t257.length : Int) := of_decide_eq_true zb2; obtain ⟨ad260, e260, hx260_0⟩ := Kd.at_string (Kd.R_reads' HO259.out).2.2 2 p260 q260; cases e260; (try simp only [show (2 : Int).toNat = 2 from rfl, Nat.reduceMul, Nat.reduceEqDiff, Go.Addr.add, ↓reduceIte] at hx260_0); have qi260 : (2 < t257.length) = True := eq_true zb16; (try rw [show ((2 : Int)).toNat = 2 from rfl] at hx260_0); replace p260 := eq_true p260; replace q260 := eq_true q260))
    repeat (go_quiet (first | (go_at_call 74; (with_reducible refine (broadsheetref03_Split.calls k a0 32 t257 _ A2.out).mono ?_); rintro e w18 ⟨v258, rfl, ho0, hb⟩; have n0_ := Aside0.mk (Kd.R_lower ho0 (below_size zb0)); have n1_ := Aside0.mk (below_step zb0 hb); clear HB; have HO259 := n0_; have HB := n1_; clear n0_ n1_; (try clear hb); (try clear hb2); (try clear hk); (try clear hi); (try clear ho0); obtain ⟨Ao19, co19, eo19⟩ := Kd.R_slice HO259.out; subst eo19; have p260 : 0 ≤ (2 : Int) := zb16; have q260 : 2 < (t257.length : Int) := of_decide_eq_true zb2; obtain ⟨ad260, e260, hx260_0⟩ := Kd.at_string (Kd.R_reads' HO259.out).2.2 2 p260 q260; cases e260; (try simp only [show (2 : Int).toNat = 2 from rfl, Nat.reduceMul, Nat.reduceEqDiff, Go.Addr.add, ↓reduceIte] at hx260_0); have qi260 : (2 < t257.length) = True := eq_true zb16; (try rw [show ((2 : Int)).toNat = 2 from rfl] at hx260_0); replace p260 := eq_true p260; replace q260 := eq_true q260)); try go_wp2_with (first | (go_at_call 74; (with_reducible refine (broadsheetref03_Split.calls k a0 32 t257 _ A2.out).mono ?_); rintro e w18 ⟨v258, rfl, ho0, hb⟩; have n0_ := Aside0.mk (Kd.R_lower ho0 (below_size zb0)); have n1_ := Aside0.mk (below_step zb0 hb); clear HB; have HO259 := n0_; have HB := n1_; clear n0_ n1_; (try clear hb); (try clear hb2); (try clear hk); (try clear hi); (try clear ho0); obtain ⟨Ao19, co19, eo19⟩ := Kd.R_slice HO259.out; subst eo19; have p260 : 0 ≤ (2 : Int) := zb16; have q260 : 2 < (t257.length : Int) := of_decide_eq_true zb2; obtain ⟨ad260, e260, hx260_0⟩ := Kd.at_string (Kd.R_reads' HO259.out).2.2 2 p260 q260; cases e260; (try simp only [show (2 : Int).toNat = 2 from rfl, Nat.reduceMul, Nat.reduceEqDiff, Go.Addr.add, ↓reduceIte] at hx260_0); have qi260 : (2 < t257.length) = True := eq_true zb16; (try rw [show ((2 : Int)).toNat = 2 from rfl] at hx260_0); replace p260 := eq_true p260; replace q260 := eq_true q260)))
    go_ret3
    exact ⟨zb4, zb0⟩
  ·rw [if_neg c4] at H
   exact absurd H zb26
 ·rw [if_neg c3] at H
  have c3b0 : ((t257.length : Int) == 3) = false := beq_eq_false_iff_ne.mpr c3
  have c3b1 : ((t257.length : Int) != 3) = true := bne_iff_ne.mpr c3
  simp only [Option.some.injEq, Prod.mk.injEq] at H
  obtain ⟨rfl, rfl, rfl⟩ := H
  go_enter Tryz.func43, Tryz.ntmps43
  go_wp2_with (first | (go_at_call 74; (with_reducible refine (broadsheetref03_Split.calls k a0 32 t257 _ A2.out).mono ?_); rintro e w20 ⟨v258, rfl, ho0, hb⟩; have n0_ := Aside0.mk (Kd.R_lower ho0 (below_size zb0)); have n1_ := Aside0.mk (below_step zb0 hb); clear HB; have HO259 := n0_; have HB := n1_; clear n0_ n1_; (try clear hb); (try clear hb2); (try clear hk); (try clear hi); (try clear ho0); obtain ⟨Ao21, co21, eo21⟩ := Kd.R_slice HO259.out; subst eo21))
  repeat (go_quiet (first | (go_at_call 74; (with_reducible refine (broadsheetref03_Split.calls k a0 32 t257 _ A2.out).mono ?_); rintro e w20 ⟨v258, rfl, ho0, hb⟩; have n0_ := Aside0.mk (Kd.R_lower ho0 (below_size zb0)); have n1_ := Aside0.mk (below_step zb0 hb); clear HB; have HO259 := n0_; have HB := n1_; clear n0_ n1_; (try clear hb); (try clear hb2); (try clear hk); (try clear hi); (try clear ho0); obtain ⟨Ao21, co21, eo21⟩ := Kd.R_slice HO259.out; subst eo21)); try go_wp2_with (first | (go_at_call 74; (with_reducible refine (broadsheetref03_Split.calls k a0 32 t257 _ A2.out).mono ?_); rintro e w20 ⟨v258, rfl, ho0, hb⟩; have n0_ := Aside0.mk (Kd.R_lower ho0 (below_size zb0)); have n1_ := Aside0.mk (below_step zb0 hb); clear HB; have HO259 := n0_; have HB := n1_; clear n0_ n1_; (try clear hb); (try clear hb2); (try clear hk); (try clear hi); (try clear ho0); obtain ⟨Ao21, co21, eo21⟩ := Kd.R_slice HO259.out; subst eo21)))
  go_ret3
  exact ⟨zb4, zb0⟩
mutual
def broadsheetref19_hex.j0 : Nat → Int → Bool → Option (Int)
  | 0, _, _ => none
  | k + 1, x0, x3 => if x3 = true then (some (wrap64 ((wrap64 (x0)) - 48))) else (if x0 ≥ 65 then (broadsheetref19_hex.j1 k x0 (decide (x0 ≤ 70))) else (broadsheetref19_hex.j1 k x0 false))
def broadsheetref19_hex.j1 : Nat → Int → Bool → Option (Int)
  | 0, _, _ => none
  | k + 1, x0, x13 => if x13 = true then (some (wrap64 ((wrap64 (x0)) - 55))) else (if x0 ≥ 97 then (if x0 ≤ 102 then (some (wrap64 ((wrap64 (x0)) - 87))) else (some (-1))) else (some (-1)))
end
def broadsheetref19_hex.f (k : Nat) (a0 : Int) : Option (Int) := if a0 ≥ 48 then (broadsheetref19_hex.j0 k a0 (decide (a0 ≤ 57))) else (broadsheetref19_hex.j0 k a0 false)
set_option maxHeartbeats 8000000 in
set_option maxRecDepth 100000 in
theorem broadsheetref19_hex.calls (k : Nat) (a0 : Int) (r : Int) (w : World) (h : broadsheetref19_hex.f k a0 = some r) :
  Calls Tryz.prog 64 #[.int .u8 a0] w fun e w' => e = .returned (.int .i64 r) ∧ Drawn0 w w' := by
 have H : (if a0 ≥ 48 then (broadsheetref19_hex.j0 k a0 (decide (a0 ≤ 57))) else (broadsheetref19_hex.j0 k a0 false)) = some r := h
 clear h
 have HC2 := Aside0.mk H
 clear H
 go_enter Tryz.func64, Tryz.ntmps64
 go_upto_region 1 with (fail)
 go_cut [3] (fun v3 wc => ∃ (kq : Nat) (x3_1 : Bool), v3 = .bool x3_1 ∧ Aside0 (broadsheetref19_hex.j0 kq a0 x3_1 = some r) ∧ Aside0 (kq ≤ k) ∧ Drawn0 w wc)
 case first =>
  have H := HC2.out
  clear HC2
  by_cases c3 : a0 ≥ 48
  ·rw [if_pos c3] at H
   have c3b0 : decide (48 ≤ a0) = true := decide_eq_true c3
   clear c3
   (first | rw [c3b0] | (simp only [i64_w, i32_w]; rw [c3b0]) | skip)
   have H' := Aside0.mk H
   clear H
   go_wp2
   go_meet
   case rel => exact ⟨_, (decide (a0 ≤ 57)), zb5, H', ⟨by first | omega | exact Nat.le_refl _⟩, by repeat (first | exact Drawn0.refl _ | apply Drawn0.step)⟩
  ·rw [if_neg c3] at H
   have c3b0 : decide (48 ≤ a0) = false := decide_eq_false c3
   clear c3
   (first | rw [c3b0] | (simp only [i64_w, i32_w]; rw [c3b0]) | skip)
   have H' := Aside0.mk H
   clear H
   go_wp2
   go_meet
   case rel => exact ⟨_, (false), zb5, H', ⟨by first | omega | exact Nat.le_refl _⟩, by repeat (first | exact Drawn0.refl _ | apply Drawn0.step)⟩
 case rest =>
  clear HC2
  try clear p2
  try clear c3
  try clear c3b0
  obtain ⟨kq, x3_1, rfl, HA, HJ1, ⟨mc1, rfl⟩⟩ := hcut
  cases kq with
  | zero => exact absurd HA.out (by simp [broadsheetref19_hex.j0])
  | succ kj1 =>
   have H := HA.out
   clear HA
   simp only [broadsheetref19_hex.j0] at H
   by_cases c4 : x3_1 = true
   ·subst c4
    replace H : (some (wrap64 ((wrap64 (a0)) - 48))) = some r := by rw [if_pos rfl] at H; exact H
    obtain rfl := Option.some.inj H
    go_wp2
    go_ret
    exact ⟨by first | rfl | (simp; done) | (simp [*]; done), by repeat (first | exact Drawn0.refl _ | apply Drawn0.step)⟩
   ·replace c4 := Bool.eq_false_iff.mpr c4
    subst c4
    replace H : (if a0 ≥ 65 then (broadsheetref19_hex.j1 kj1 a0 (decide (a0 ≤ 70))) else (broadsheetref19_hex.j1 kj1 a0 false)) = some r := by rw [if_neg (show ¬ (false = true) by decide)] at H; exact H
    have HC5 := Aside0.mk H
    clear H
    go_upto_region 3 with (fail)
    go_cut [13] (fun v13 wc => ∃ (kq : Nat) (x13_4 : Bool), v13 = .bool x13_4 ∧ Aside0 (broadsheetref19_hex.j1 kq a0 x13_4 = some r) ∧ Aside0 (kq ≤ kj1) ∧ Drawn0 w wc)
    case first =>
     have H := HC5.out
     clear HC5
     by_cases c6 : a0 ≥ 65
     ·rw [if_pos c6] at H
      have c6b0 : decide (65 ≤ a0) = true := decide_eq_true c6
      clear c6
      (first | rw [c6b0] | (simp only [i64_w, i32_w]; rw [c6b0]) | skip)
      have H' := Aside0.mk H
      clear H
      go_wp2
      go_meet
      case rel => exact ⟨_, (decide (a0 ≤ 70)), zb5, H', ⟨by have := HJ1.out; first | omega | exact Nat.le_refl _⟩, by repeat (first | exact Drawn0.refl _ | apply Drawn0.step)⟩
     ·rw [if_neg c6] at H
      have c6b0 : decide (65 ≤ a0) = false := decide_eq_false c6
      clear c6
      (first | rw [c6b0] | (simp only [i64_w, i32_w]; rw [c6b0]) | skip)
      have H' := Aside0.mk H
      clear H
      go_wp2
      go_meet
      case rel => exact ⟨_, (false), zb5, H', ⟨by have := HJ1.out; first | omega | exact Nat.le_refl _⟩, by repeat (first | exact Drawn0.refl _ | apply Drawn0.step)⟩
    case rest =>
     clear HC5
     try clear c1
     try clear p2
     try clear c3
     try clear c3b0
     try clear c4
     try clear c6
     try clear c6b0
     try clear p6
     try clear p2
     obtain ⟨kq, x13_4, rfl, HA, HJ4, ⟨mc4, rfl⟩⟩ := hcut
     cases kq with
     | zero => exact absurd HA.out (by simp [broadsheetref19_hex.j1])
     | succ kj4 =>
      have H := HA.out
      clear HA
      simp only [broadsheetref19_hex.j1] at H
      by_cases c7 : x13_4 = true
      ·subst c7
       replace H : (some (wrap64 ((wrap64 (a0)) - 55))) = some r := by rw [if_pos rfl] at H; exact H
       obtain rfl := Option.some.inj H
       go_wp2
       go_ret
       exact ⟨by first | rfl | (simp; done) | (simp [*]; done), by repeat (first | exact Drawn0.refl _ | apply Drawn0.step)⟩
      ·replace c7 := Bool.eq_false_iff.mpr c7
       subst c7
       replace H : (if a0 ≥ 97 then (if a0 ≤ 102 then (some (wrap64 ((wrap64 (a0)) - 87))) else (some (-1))) else (some (-1))) = some r := by rw [if_neg (show ¬ (false = true) by decide)] at H; exact H
       by_cases c8 : a0 ≥ 97
       ·rw [if_pos c8] at H
        have c8b0 : decide (97 ≤ a0) = true := decide_eq_true c8
        clear c8
        by_cases c9 : a0 ≤ 102
        ·rw [if_pos c9] at H
         have c9b0 : decide (a0 ≤ 102) = true := decide_eq_true c9
         clear c9
         obtain rfl := Option.some.inj H
         go_wp2
         go_ret
         exact ⟨by first | rfl | (simp; done) | (simp [*]; done), by repeat (first | exact Drawn0.refl _ | apply Drawn0.step)⟩
        ·rw [if_neg c9] at H
         have c9b0 : decide (a0 ≤ 102) = false := decide_eq_false c9
         clear c9
         obtain rfl := Option.some.inj H
         go_wp2
         go_ret
         exact ⟨by first | rfl | (simp; done) | (simp [*]; done), by repeat (first | exact Drawn0.refl _ | apply Drawn0.step)⟩
       ·rw [if_neg c8] at H
        have c8b0 : decide (97 ≤ a0) = false := decide_eq_false c8
        clear c8
        obtain rfl := Option.some.inj H
        go_wp2
        go_ret
        exact ⟨by first | rfl | (simp; done) | (simp [*]; done), by repeat (first | exact Drawn0.refl _ | apply Drawn0.step)⟩
mutual
def broadsheetref19_size.l0 : Nat → ByteArray → Int → Int → Option (Int × ByteArray)
  | 0, _, _, _ => none
  | k + 1, x0, x4, x5 => if x5 < (x0.size : Int) then (if 0 ≤ x5 then ((broadsheetref19_hex.f k (bt x0 x5)).bind fun t267 => (broadsheetref19_size.j1 k x0 x4 x5 (decide (t267 ≥ 0)))) else (none)) else (broadsheetref19_size.j1 k x0 x4 x5 false)
def broadsheetref19_size.j1 : Nat → ByteArray → Int → Int → Bool → Option (Int × ByteArray)
  | 0, _, _, _, _ => none
  | k + 1, x0, x4, x5, x16 => if x16 = true then (if x5 = 8 then (some ((-1), (⟨#[]⟩ : ByteArray))) else (if 0 ≤ x5 then (if x5 < (x0.size : Int) then ((broadsheetref19_hex.f k (bt x0 x5)).bind fun t268 => (broadsheetref19_size.l0 k x0 (wrap64 ((wrap64 (x4 * 16)) + t268)) (wrap64 (x5 + 1)))) else (none)) else (none))) else (if x5 = 0 then (some ((-1), (⟨#[]⟩ : ByteArray))) else (if 0 ≤ x5 then (if x5 ≤ (x0.size : Int) then (some (x4, x0.extract (x5 : Int).toNat x0.size)) else (none)) else (none)))
end
def broadsheetref19_size.f (k : Nat) (a0 : ByteArray) : Option (Int × ByteArray) := broadsheetref19_size.l0 k a0 0 0
set_option maxHeartbeats 8000000 in
set_option maxRecDepth 100000 in
theorem broadsheetref19_size.calls (k : Nat) (a0 : ByteArray) (r1 : Int) (r2 : ByteArray) (w : World) (h : broadsheetref19_size.f k a0 = some (r1, r2)) :
  Calls Tryz.prog 37 #[.string a0] w fun e w' => e = .returned (.tuple #[.int .i64 r1, .string r2]) ∧ Drawn0 w w' := by
 have H : (broadsheetref19_size.l0 k a0 0 0) = some (r1, r2) := h
 clear h
 have H' := Aside0.mk H
 clear H
 go_enter Tryz.func37, Tryz.ntmps37
 go_wp2
 repeat (go_quiet (fail); try go_wp2)
 first | go_loopg [4, 5] k (fun kq v4 v5 w' => ∃ (x4_1 : Int) (x5_1 : Int), v4 = .int .i64 x4_1 ∧ v5 = .int .i64 x5_1 ∧ Aside0 (broadsheetref19_size.l0 kq a0 x4_1 x5_1 = some (r1, r2)) ∧ Aside0 (kq ≤ k) ∧ Drawn0 w w') | (go_simp; go_loopg [4, 5] k (fun kq v4 v5 w' => ∃ (x4_1 : Int) (x5_1 : Int), v4 = .int .i64 x4_1 ∧ v5 = .int .i64 x5_1 ∧ Aside0 (broadsheetref19_size.l0 kq a0 x4_1 x5_1 = some (r1, r2)) ∧ Aside0 (kq ≤ k) ∧ Drawn0 w w'))
 case atStart => exact ⟨(0), (0), zb5, zb5, H', ⟨Nat.le_refl _⟩, by repeat (first | exact Drawn0.refl _ | apply Drawn0.step)⟩
 case round =>
  clear H'
  obtain ⟨x4_1, x5_1, rfl, rfl, HA, HK1, ⟨m1, rfl⟩⟩ := hrel
  cases gk with
  | zero => exact absurd HA.out (by simp [broadsheetref19_size.l0])
  | succ k1 =>
   have H := HA.out
   clear HA
   simp only [broadsheetref19_size.l0] at H
   have HC2 := Aside0.mk H
   clear H
   go_upto_region 2 with (fail)
   repeat (go_quiet (fail); go_upto_region 2 with (fail))
   go_cut [16] (fun v16 wc => ∃ (kq : Nat) (x16_1 : Bool), v16 = .bool x16_1 ∧ Aside0 (broadsheetref19_size.j1 kq a0 x4_1 x5_1 x16_1 = some (r1, r2)) ∧ Aside0 (kq ≤ k1) ∧ Drawn0 w wc)
   case first =>
    have H := HC2.out
    clear HC2
    by_cases c3 : x5_1 < (a0.size : Int)
    ·rw [if_pos c3] at H
     have c3b0 : decide (x5_1 < (a0.size : Int)) = true := decide_eq_true c3
     clear c3
     (first | rw [c3b0] | (simp only [i64_w, i32_w]; rw [c3b0]) | skip)
     by_cases c4 : 0 ≤ x5_1
     ·rw [if_pos c4] at H
      have c4b0 : decide (0 ≤ x5_1) = true := decide_eq_true c4
      clear c4
      replace H := Option.bind_eq_some_iff.mp H
      obtain ⟨t267, A60, H⟩ := H
      replace H : (broadsheetref19_size.j1 k1 a0 x4_1 x5_1 (decide (t267 ≥ 0))) = some (r1, r2) := H
      have A6 := Aside0.mk A60
      clear A60
      have H' := Aside0.mk H
      clear H
      have p5 : 0 ≤ (x5_1 : Int) := of_decide_eq_true zb2
      have q5 : x5_1 < (a0.size : Int) := of_decide_eq_true zb2
      have hx5 := bt_at a0 x5_1
      replace p5 := eq_true p5
      replace q5 := eq_true q5
      go_wp2_with (first | (go_at_call 64; (with_reducible refine (broadsheetref19_hex.calls k1 (bt a0 x5_1) t267 _ A6.out).mono ?_); rintro e w' ⟨rfl, ⟨nd, rfl⟩⟩; (try first | exact ⟨rfl, _, World.drewN_drewN _ _ _⟩ | exact ⟨rfl, _, Eq.trans (World.drewN_drewN _ _ _) (congrArg (World.drewN _) (Nat.add_assoc _ _ _))⟩)))
      repeat (go_quiet (first | (go_at_call 64; (with_reducible refine (broadsheetref19_hex.calls k1 (bt a0 x5_1) t267 _ A6.out).mono ?_); rintro e w' ⟨rfl, ⟨nd, rfl⟩⟩; (try first | exact ⟨rfl, _, World.drewN_drewN _ _ _⟩ | exact ⟨rfl, _, Eq.trans (World.drewN_drewN _ _ _) (congrArg (World.drewN _) (Nat.add_assoc _ _ _))⟩))); try go_wp2_with (first | (go_at_call 64; (with_reducible refine (broadsheetref19_hex.calls k1 (bt a0 x5_1) t267 _ A6.out).mono ?_); rintro e w' ⟨rfl, ⟨nd, rfl⟩⟩; (try first | exact ⟨rfl, _, World.drewN_drewN _ _ _⟩ | exact ⟨rfl, _, Eq.trans (World.drewN_drewN _ _ _) (congrArg (World.drewN _) (Nat.add_assoc _ _ _))⟩))))
      go_meet
      case rel => exact ⟨_, (decide (t267 ≥ 0)), zb5, H', ⟨by have := HK1.out; first | omega | exact Nat.le_refl _⟩, by repeat (first | exact Drawn0.refl _ | apply Drawn0.step)⟩
     ·rw [if_neg c4] at H
      exact absurd H zb26
    ·rw [if_neg c3] at H
     have c3b0 : decide (x5_1 < (a0.size : Int)) = false := decide_eq_false c3
     clear c3
     (first | rw [c3b0] | (simp only [i64_w, i32_w]; rw [c3b0]) | skip)
     have H' := Aside0.mk H
     clear H
     go_wp2
     repeat (go_quiet (fail); try go_wp2)
     go_meet
     case rel => exact ⟨_, (false), zb5, H', ⟨by have := HK1.out; first | omega | exact Nat.le_refl _⟩, by repeat (first | exact Drawn0.refl _ | apply Drawn0.step)⟩
   case rest =>
    clear HC2
    try clear p2
    try clear c3
    try clear c3b0
    try clear c4
    try clear c4b0
    try clear p5
    try clear q5
    try clear hx5
    try clear p5
    try clear q5
    obtain ⟨kq, x16_1, rfl, HA, HJ1, ⟨mc1, rfl⟩⟩ := hcut
    cases kq with
    | zero => exact absurd HA.out (by simp [broadsheetref19_size.j1])
    | succ kj1 =>
     have H := HA.out
     clear HA
     simp only [broadsheetref19_size.j1] at H
     by_cases c7 : x16_1 = true
     ·subst c7
      replace H : (if x5_1 = 8 then (some ((-1), (⟨#[]⟩ : ByteArray))) else (if 0 ≤ x5_1 then (if x5_1 < (a0.size : Int) then ((broadsheetref19_hex.f kj1 (bt a0 x5_1)).bind fun t268 => (broadsheetref19_size.l0 kj1 a0 (wrap64 ((wrap64 (x4_1 * 16)) + t268)) (wrap64 (x5_1 + 1)))) else (none)) else (none))) = some (r1, r2) := by rw [if_pos rfl] at H; exact H
      by_cases c8 : x5_1 = 8
      ·rw [if_pos c8] at H
       have c8b0 : (x5_1 == 8) = true := beq_iff_eq.mpr c8
       have c8b1 : (x5_1 != 8) = false := bne_eq_false_iff_eq.mpr c8
       clear c8
       simp only [Option.some.injEq, Prod.mk.injEq] at H
       obtain ⟨rfl, rfl⟩ := H
       go_wp2
       repeat (go_quiet (fail); try go_wp2)
       go_ret2
       exact ⟨by first | rfl | (simp; done) | (simp [*]; done), by repeat (first | exact Drawn0.refl _ | apply Drawn0.step)⟩
      ·rw [if_neg c8] at H
       have c8b0 : (x5_1 == 8) = false := beq_eq_false_iff_ne.mpr c8
       have c8b1 : (x5_1 != 8) = true := bne_iff_ne.mpr c8
       by_cases c9 : 0 ≤ x5_1
       ·rw [if_pos c9] at H
        have c9b0 : decide (0 ≤ x5_1) = true := decide_eq_true c9
        clear c9
        by_cases c10 : x5_1 < (a0.size : Int)
        ·rw [if_pos c10] at H
         have c10b0 : decide (x5_1 < (a0.size : Int)) = true := decide_eq_true c10
         clear c10
         replace H := Option.bind_eq_some_iff.mp H
         obtain ⟨t268, A120, H⟩ := H
         replace H : (broadsheetref19_size.l0 kj1 a0 (wrap64 ((wrap64 (x4_1 * 16)) + t268)) (wrap64 (x5_1 + 1))) = some (r1, r2) := H
         have A12 := Aside0.mk A120
         clear A120
         have H' := Aside0.mk H
         clear H
         have p11 : 0 ≤ (x5_1 : Int) := of_decide_eq_true zb2
         have q11 : x5_1 < (a0.size : Int) := of_decide_eq_true zb2
         have hx11 := bt_at a0 x5_1
         replace p11 := eq_true p11
         replace q11 := eq_true q11
         go_wp2_with (first | (go_at_call 64; (with_reducible refine (broadsheetref19_hex.calls kj1 (bt a0 x5_1) t268 _ A12.out).mono ?_); rintro e w' ⟨rfl, ⟨nd, rfl⟩⟩; (try first | exact ⟨rfl, _, World.drewN_drewN _ _ _⟩ | exact ⟨rfl, _, Eq.trans (World.drewN_drewN _ _ _) (congrArg (World.drewN _) (Nat.add_assoc _ _ _))⟩)))
         repeat (go_quiet (first | (go_at_call 64; (with_reducible refine (broadsheetref19_hex.calls kj1 (bt a0 x5_1) t268 _ A12.out).mono ?_); rintro e w' ⟨rfl, ⟨nd, rfl⟩⟩; (try first | exact ⟨rfl, _, World.drewN_drewN _ _ _⟩ | exact ⟨rfl, _, Eq.trans (World.drewN_drewN _ _ _) (congrArg (World.drewN _) (Nat.add_assoc _ _ _))⟩))); try go_wp2_with (first | (go_at_call 64; (with_reducible refine (broadsheetref19_hex.calls kj1 (bt a0 x5_1) t268 _ A12.out).mono ?_); rintro e w' ⟨rfl, ⟨nd, rfl⟩⟩; (try first | exact ⟨rfl, _, World.drewN_drewN _ _ _⟩ | exact ⟨rfl, _, Eq.trans (World.drewN_drewN _ _ _) (congrArg (World.drewN _) (Nat.add_assoc _ _ _))⟩))))
         go_roundg kj1
         case measure => have := HK1.out; have := HJ1.out; omega
         case rel => exact ⟨(wrap64 ((wrap64 (x4_1 * 16)) + t268)), (wrap64 (x5_1 + 1)), zb5, zb5, H', ⟨by have := HK1.out; have := HJ1.out; omega⟩, by repeat (first | exact Drawn0.refl _ | apply Drawn0.step)⟩
        ·rw [if_neg c10] at H
         exact absurd H zb26
       ·rw [if_neg c9] at H
        exact absurd H zb26
     ·replace c7 := Bool.eq_false_iff.mpr c7
      subst c7
      replace H : (if x5_1 = 0 then (some ((-1), (⟨#[]⟩ : ByteArray))) else (if 0 ≤ x5_1 then (if x5_1 ≤ (a0.size : Int) then (some (x4_1, a0.extract (x5_1 : Int).toNat a0.size)) else (none)) else (none))) = some (r1, r2) := by rw [if_neg (show ¬ (false = true) by decide)] at H; exact H
      by_cases c13 : x5_1 = 0
      ·rw [if_pos c13] at H
       have c13b0 : (x5_1 == 0) = true := beq_iff_eq.mpr c13
       have c13b1 : (x5_1 != 0) = false := bne_eq_false_iff_eq.mpr c13
       clear c13
       simp only [Option.some.injEq, Prod.mk.injEq] at H
       obtain ⟨rfl, rfl⟩ := H
       go_wp2
       repeat (go_quiet (fail); try go_wp2)
       go_ret2
       exact ⟨by first | rfl | (simp; done) | (simp [*]; done), by repeat (first | exact Drawn0.refl _ | apply Drawn0.step)⟩
      ·rw [if_neg c13] at H
       have c13b0 : (x5_1 == 0) = false := beq_eq_false_iff_ne.mpr c13
       have c13b1 : (x5_1 != 0) = true := bne_iff_ne.mpr c13
       by_cases c14 : 0 ≤ x5_1
       ·rw [if_pos c14] at H
        have c14b0 := eq_true c14
        have c14b1 : decide (0 ≤ x5_1) = true := decide_eq_true c14
        clear c14
        by_cases c15 : x5_1 ≤ (a0.size : Int)
        ·rw [if_pos c15] at H
         have c15b0 := eq_true c15
         have c15b1 : decide (x5_1 ≤ (a0.size : Int)) = true := decide_eq_true c15
         clear c15
         simp only [Option.some.injEq, Prod.mk.injEq] at H
         obtain ⟨rfl, rfl⟩ := H
         go_wp2
         repeat (go_quiet (fail); try go_wp2)
         go_ret2
         exact ⟨by first | rfl | (simp; done) | (simp [*]; done), by repeat (first | exact Drawn0.refl _ | apply Drawn0.step)⟩
        ·rw [if_neg c15] at H
         exact absurd H zb26
       ·rw [if_neg c14] at H
        exact absurd H zb26
mutual
def broadsheetref19_Decode.l0 : Nat → ByteArray → ByteArray → Option (ByteArray × ByteArray × Int)
  | 0, _, _ => none
  | k + 1, x0, x5 => (broadsheetref18_Line.f k x0).bind fun bt297 => (if bt297.2.2 = true then ((broadsheetref19_size.f k bt297.1).bind fun bt300 => ((broadsheetref13_Params.f k bt300.2).bind fun bt302 => (if bt300.1 < 0 then (broadsheetref19_Decode.j1 k x5 bt297.2.1 bt300.1 true) else (broadsheetref19_Decode.j1 k x5 bt297.2.1 bt300.1 (!bt302.2))))) else (some ((⟨#[]⟩ : ByteArray), (⟨#[]⟩ : ByteArray), 190)))
def broadsheetref19_Decode.j1 : Nat → ByteArray → ByteArray → Int → Bool → Option (ByteArray × ByteArray × Int)
  | 0, _, _, _, _ => none
  | k + 1, x5, x7, x9, x39 => if x39 = true then (some ((⟨#[]⟩ : ByteArray), (⟨#[]⟩ : ByteArray), 190)) else (if x9 = 0 then ((broadsheetref18_Parse.f k x7).bind fun bt306 => (if bt306.2.2 = 0 then (some (x5, bt306.2.1, 0)) else (some ((⟨#[]⟩ : ByteArray), (⟨#[]⟩ : ByteArray), 190)))) else (if x9 > (wrap64 (100000 - (x5.size : Int))) then (some ((⟨#[]⟩ : ByteArray), (⟨#[]⟩ : ByteArray), 2)) else (if (x7.size : Int) < (wrap64 (x9 + 2)) then (some ((⟨#[]⟩ : ByteArray), (⟨#[]⟩ : ByteArray), 190)) else (if 0 ≤ x9 then (if x9 < (x7.size : Int) then (if (bt x7 x9) = 13 then (if 0 ≤ (wrap64 (x9 + 1)) then (if (wrap64 (x9 + 1)) < (x7.size : Int) then (if (bt x7 (wrap64 (x9 + 1))) = 10 then (if x9 ≤ (x7.size : Int) then (if x5.size + (x7.extract 0 (x9 : Int).toNat).size ≤ 9223372036854775807 then (if 0 ≤ (wrap64 (x9 + 2)) then (if (wrap64 (x9 + 2)) ≤ (x7.size : Int) then (broadsheetref19_Decode.l0 k (x7.extract ((wrap64 (x9 + 2)) : Int).toNat x7.size) (x5 ++ (x7.extract 0 (x9 : Int).toNat))) else (none)) else (none)) else (none)) else (none)) else (some ((⟨#[]⟩ : ByteArray), (⟨#[]⟩ : ByteArray), 190))) else (none)) else (none)) else (some ((⟨#[]⟩ : ByteArray), (⟨#[]⟩ : ByteArray), 190))) else (none)) else (none)))))
end
def broadsheetref19_Decode.f (k : Nat) (a0 : ByteArray) : Option (ByteArray × ByteArray × Int) := broadsheetref19_Decode.l0 k a0 (⟨#[]⟩ : ByteArray)
set_option maxHeartbeats 8000000 in
set_option maxRecDepth 100000 in
theorem broadsheetref19_Decode.calls (k : Nat) (a0 : ByteArray) (r1 : ByteArray) (r2 : ByteArray) (r3 : Int) (w : World) (h : broadsheetref19_Decode.f k a0 = some (r1, r2, r3)) :
  Calls Tryz.prog 13 #[.string a0] w fun e w' => e = .returned (.tuple #[.string r1, .string r2, .int .i64 r3]) ∧ Below w.heap.size w w' := by
 have HB := Aside0.mk (Below.refl w.heap.size w)
 have H : (broadsheetref19_Decode.l0 k a0 (⟨#[]⟩ : ByteArray)) = some (r1, r2, r3) := h
 clear h
 have H' := Aside0.mk H
 clear H
 go_enter Tryz.func13, Tryz.ntmps13
 go_wp2
 first | go_loopg [0, 5] k (fun kq v0 v5 w' => ∃ (x0_1 : ByteArray) (x5_1 : ByteArray), v0 = .string x0_1 ∧ v5 = .string x5_1 ∧ Aside0 (broadsheetref19_Decode.l0 kq x0_1 x5_1 = some (r1, r2, r3)) ∧ Aside0 (kq ≤ k) ∧ Aside0 (Below w.heap.size w w')) | (go_simp; go_loopg [0, 5] k (fun kq v0 v5 w' => ∃ (x0_1 : ByteArray) (x5_1 : ByteArray), v0 = .string x0_1 ∧ v5 = .string x5_1 ∧ Aside0 (broadsheetref19_Decode.l0 kq x0_1 x5_1 = some (r1, r2, r3)) ∧ Aside0 (kq ≤ k) ∧ Aside0 (Below w.heap.size w w')))
 case atStart => exact ⟨(a0), ((⟨#[]⟩ : ByteArray)), zb5, zb5, H', ⟨Nat.le_refl _⟩, ⟨by repeat (first | (with_reducible first | exact HB.out | apply below_alloc | apply pw_below_drewN | apply below_drew1) | exact HB.out)⟩⟩
 case round =>
  clear H'
  try clear c1
  obtain ⟨x0_1, x5_1, rfl, rfl, HA, HK1, HB⟩ := hrel
  cases gk with
  | zero => exact absurd HA.out (by simp [broadsheetref19_Decode.l0])
  | succ k1 =>
   have H := HA.out
   clear HA
   simp only [broadsheetref19_Decode.l0] at H
   replace H := Option.bind_eq_some_iff.mp H
   obtain ⟨⟨t297, t298, t299⟩, A20, H⟩ := H
   replace H : (if t299 = true then ((broadsheetref19_size.f k1 t297).bind fun bt300 => ((broadsheetref13_Params.f k1 bt300.2).bind fun bt302 => (if bt300.1 < 0 then (broadsheetref19_Decode.j1 k1 x5_1 t298 bt300.1 true) else (broadsheetref19_Decode.j1 k1 x5_1 t298 bt300.1 (!bt302.2))))) else (some ((⟨#[]⟩ : ByteArray), (⟨#[]⟩ : ByteArray), 190))) = some (r1, r2, r3) := H
   have A2 := Aside0.mk A20
   clear A20
   by_cases c3 : t299 = true
   ·subst c3
    replace H : ((broadsheetref19_size.f k1 t297).bind fun bt300 => ((broadsheetref13_Params.f k1 bt300.2).bind fun bt302 => (if bt300.1 < 0 then (broadsheetref19_Decode.j1 k1 x5_1 t298 bt300.1 true) else (broadsheetref19_Decode.j1 k1 x5_1 t298 bt300.1 (!bt302.2))))) = some (r1, r2, r3) := by rw [if_pos rfl] at H; exact H
    replace H := Option.bind_eq_some_iff.mp H
    obtain ⟨⟨t300, t301⟩, A40, H⟩ := H
    replace H : ((broadsheetref13_Params.f k1 t301).bind fun bt302 => (if t300 < 0 then (broadsheetref19_Decode.j1 k1 x5_1 t298 t300 true) else (broadsheetref19_Decode.j1 k1 x5_1 t298 t300 (!bt302.2)))) = some (r1, r2, r3) := H
    have A4 := Aside0.mk A40
    clear A40
    replace H := Option.bind_eq_some_iff.mp H
    obtain ⟨⟨t302, t303⟩, A50, H⟩ := H
    replace H : (if t300 < 0 then (broadsheetref19_Decode.j1 k1 x5_1 t298 t300 true) else (broadsheetref19_Decode.j1 k1 x5_1 t298 t300 (!t303))) = some (r1, r2, r3) := H
    have A5 := Aside0.mk A50
    clear A50
    have HC6 := Aside0.mk H
    clear H
    go_upto_region 7 with (first | ((with_reducible refine gate_callee (f := 36) rfl ?_); refine goesL_ (some 18) rfl rfl Tryz.func36 zb12 rfl #[.string x0_1] rfl zb1 ?_; (with_reducible refine (broadsheetref18_Line.calls k1 x0_1 t297 t298 true _ A2.out).mono ?_); rintro e w' ⟨rfl, ⟨nd, rfl⟩⟩; refine ⟨_, rfl, ?_⟩) | ((with_reducible refine gate_callee (f := 37) rfl ?_); refine goesL_ (some 26) rfl rfl Tryz.func37 zb12 rfl #[.string t297] rfl zb1 ?_; (with_reducible refine (broadsheetref19_size.calls k1 t297 t300 t301 _ A4.out).mono ?_); rintro e w' ⟨rfl, ⟨nd, rfl⟩⟩; refine ⟨_, rfl, ?_⟩) | ((with_reducible refine gate_callee (f := 38) rfl ?_); refine goesL_ (some 31) rfl rfl Tryz.func38 zb12 rfl #[.string t301] rfl zb1 ?_; (with_reducible refine (broadsheetref13_Params.calls k1 t301 t302 t303 _ A5.out).mono ?_); rintro e w7 ⟨v304, rfl, ho0, hb⟩; refine ⟨_, rfl, ?_⟩; have n0_ := Aside0.mk (Kd.R_lower ho0 (below_size zb0)); have n1_ := Aside0.mk (below_step zb0 hb); clear HB; have HO305 := n0_; have HB := n1_; clear n0_ n1_; (try clear hb); (try clear hb2); (try clear hk); (try clear hi); (try clear ho0)))
    (try simp only [Act.put, List.setIfInBounds_toArray, List.set_cons_zero, List.set_cons_succ])
    go_cut [39] (fun v39 wc => ∃ (kq : Nat) (x39_5 : Bool), v39 = .bool x39_5 ∧ Aside0 (broadsheetref19_Decode.j1 kq x5_1 t298 t300 x39_5 = some (r1, r2, r3)) ∧ Aside0 (kq ≤ k1) ∧ Aside0 (Below w.heap.size w wc))
    case first =>
     have H := HC6.out
     clear HC6
     by_cases c8 : t300 < 0
     ·rw [if_pos c8] at H
      have c8b0 : decide (t300 < 0) = true := decide_eq_true c8
      clear c8
      (first | rw [c8b0] | (simp only [i64_w, i32_w]; rw [c8b0]) | skip)
      have H' := Aside0.mk H
      clear H
      go_wp2
      go_meet
      case rel => exact ⟨_, (true), zb5, H', ⟨by have := HK1.out; first | omega | exact Nat.le_refl _⟩, ⟨by repeat (first | (with_reducible first | exact HB.out | apply below_alloc | apply pw_below_drewN | apply below_drew1) | exact HB.out)⟩⟩
     ·rw [if_neg c8] at H
      have c8b0 : decide (t300 < 0) = false := decide_eq_false c8
      clear c8
      (first | rw [c8b0] | (simp only [i64_w, i32_w]; rw [c8b0]) | skip)
      have H' := Aside0.mk H
      clear H
      go_wp2
      go_meet
      case rel => exact ⟨_, (!t303), zb5, H', ⟨by have := HK1.out; first | omega | exact Nat.le_refl _⟩, ⟨by repeat (first | (with_reducible first | exact HB.out | apply below_alloc | apply pw_below_drewN | apply below_drew1) | exact HB.out)⟩⟩
    case rest =>
     clear HC6
     try clear c1
     try clear p2
     try clear c3
     try clear c8
     try clear c8b0
     obtain ⟨kq, x39_5, rfl, HA, HJ5, HB⟩ := hcut
     cases kq with
     | zero => exact absurd HA.out (by simp [broadsheetref19_Decode.j1])
     | succ kj5 =>
      have H := HA.out
      clear HA
      simp only [broadsheetref19_Decode.j1] at H
      by_cases c9 : x39_5 = true
      ·subst c9
       replace H : (some ((⟨#[]⟩ : ByteArray), (⟨#[]⟩ : ByteArray), 190)) = some (r1, r2, r3) := by rw [if_pos rfl] at H; exact H
       simp only [Option.some.injEq, Prod.mk.injEq] at H
       obtain ⟨rfl, rfl, rfl⟩ := H
       go_wp2
       go_ret3
       exact ⟨zb4, zb0⟩
      ·replace c9 := Bool.eq_false_iff.mpr c9
       subst c9
       replace H : (if t300 = 0 then ((broadsheetref18_Parse.f kj5 t298).bind fun bt306 => (if bt306.2.2 = 0 then (some (x5_1, bt306.2.1, 0)) else (some ((⟨#[]⟩ : ByteArray), (⟨#[]⟩ : ByteArray), 190)))) else (if t300 > (wrap64 (100000 - (x5_1.size : Int))) then (some ((⟨#[]⟩ : ByteArray), (⟨#[]⟩ : ByteArray), 2)) else (if (t298.size : Int) < (wrap64 (t300 + 2)) then (some ((⟨#[]⟩ : ByteArray), (⟨#[]⟩ : ByteArray), 190)) else (if 0 ≤ t300 then (if t300 < (t298.size : Int) then (if (bt t298 t300) = 13 then (if 0 ≤ (wrap64 (t300 + 1)) then (if (wrap64 (t300 + 1)) < (t298.size : Int) then (if (bt t298 (wrap64 (t300 + 1))) = 10 then (if t300 ≤ (t298.size : Int) then (if x5_1.size + (t298.extract 0 (t300 : Int).toNat).size ≤ 9223372036854775807 then (if 0 ≤ (wrap64 (t300 + 2)) then (if (wrap64 (t300 + 2)) ≤ (t298.size : Int) then (broadsheetref19_Decode.l0 kj5 (t298.extract ((wrap64 (t300 + 2)) : Int).toNat t298.size) (x5_1 ++ (t298.extract 0 (t300 : Int).toNat))) else (none)) else (none)) else (none)) else (none)) else (some ((⟨#[]⟩ : ByteArray), (⟨#[]⟩ : ByteArray), 190))) else (none)) else (none)) else (some ((⟨#[]⟩ : ByteArray), (⟨#[]⟩ : ByteArray), 190))) else (none)) else (none))))) = some (r1, r2, r3) := by rw [if_neg (show ¬ (false = true) by decide)] at H; exact H
       by_cases c10 : t300 = 0
       ·rw [if_pos c10] at H
        have c10b0 : (t300 == 0) = true := beq_iff_eq.mpr c10
        have c10b1 : (t300 != 0) = false := bne_eq_false_iff_eq.mpr c10
        clear c10
        replace H := Option.bind_eq_some_iff.mp H
        obtain ⟨⟨t306, t307, t308⟩, A110, H⟩ := H
        replace H : (if t308 = 0 then (some (x5_1, t307, 0)) else (some ((⟨#[]⟩ : ByteArray), (⟨#[]⟩ : ByteArray), 190))) = some (r1, r2, r3) := H
        have A11 := Aside0.mk A110
        clear A110
        by_cases c12 : t308 = 0
        ·rw [if_pos c12] at H
         have c12b0 : (t308 == 0) = true := beq_iff_eq.mpr c12
         have c12b1 : (t308 != 0) = false := bne_eq_false_iff_eq.mpr c12
         clear c12
         simp only [Option.some.injEq, Prod.mk.injEq] at H
         obtain ⟨rfl, rfl, rfl⟩ := H
         go_wp2_with (first | ((with_reducible refine gate_callee (f := 39) rfl ?_); refine goesL_ (some 44) rfl rfl Tryz.func39 zb12 rfl #[.string t298] rfl zb1 ?_; (with_reducible refine (broadsheetref18_Parse.calls kj5 t298 t306 t307 t308 _ A11.out).mono ?_); rintro e w13 ⟨v309, rfl, ho0, hb⟩; refine ⟨_, rfl, ?_⟩; have n0_ := Aside0.mk (Kd.R_lower ho0 (below_size zb0)); have n1_ := Aside0.mk (below_step zb0 hb); clear HB; have HO310 := n0_; have HB := n1_; clear n0_ n1_; (try clear hb); (try clear hb2); (try clear hk); (try clear hi); (try clear ho0)))
         go_ret3
         exact ⟨zb4, zb0⟩
        ·rw [if_neg c12] at H
         have c12b0 : (t308 == 0) = false := beq_eq_false_iff_ne.mpr c12
         have c12b1 : (t308 != 0) = true := bne_iff_ne.mpr c12
         simp only [Option.some.injEq, Prod.mk.injEq] at H
         obtain ⟨rfl, rfl, rfl⟩ := H
         go_wp2_with (first | ((with_reducible refine gate_callee (f := 39) rfl ?_); refine goesL_ (some 44) rfl rfl Tryz.func39 zb12 rfl #[.string t298] rfl zb1 ?_; (with_reducible refine (broadsheetref18_Parse.calls kj5 t298 t306 t307 t308 _ A11.out).mono ?_); rintro e w14 ⟨v309, rfl, ho0, hb⟩; refine ⟨_, rfl, ?_⟩; have n0_ := Aside0.mk (Kd.R_lower ho0 (below_size zb0)); have n1_ := Aside0.mk (below_step zb0 hb); clear HB; have HO310 := n0_; have HB := n1_; clear n0_ n1_; (try clear hb); (try clear hb2); (try clear hk); (try clear hi); (try clear ho0)))
         go_ret3
         exact ⟨zb4, zb0⟩
       ·rw [if_neg c10] at H
        have c10b0 : (t300 == 0) = false := beq_eq_false_iff_ne.mpr c10
        have c10b1 : (t300 != 0) = true := bne_iff_ne.mpr c10
        by_cases c15 : t300 > (wrap64 (100000 - (x5_1.size : Int)))
        ·rw [if_pos c15] at H
         have c15b0 : decide ((wrap64 (100000 - (x5_1.size : Int))) < t300) = true := decide_eq_true c15
         clear c15
         simp only [Option.some.injEq, Prod.mk.injEq] at H
         obtain ⟨rfl, rfl, rfl⟩ := H
         go_wp2
         go_ret3
         exact ⟨zb4, zb0⟩
        ·rw [if_neg c15] at H
         have c15b0 : decide ((wrap64 (100000 - (x5_1.size : Int))) < t300) = false := decide_eq_false c15
         clear c15
         by_cases c16 : (t298.size : Int) < (wrap64 (t300 + 2))
         ·rw [if_pos c16] at H
          have c16b0 : decide ((t298.size : Int) < (wrap64 (t300 + 2))) = true := decide_eq_true c16
          clear c16
          simp only [Option.some.injEq, Prod.mk.injEq] at H
          obtain ⟨rfl, rfl, rfl⟩ := H
          go_wp2
          go_ret3
          exact ⟨zb4, zb0⟩
         ·rw [if_neg c16] at H
          have c16b0 : decide ((t298.size : Int) < (wrap64 (t300 + 2))) = false := decide_eq_false c16
          clear c16
          by_cases c17 : 0 ≤ t300
          ·rw [if_pos c17] at H
           have c17b0 : decide (0 ≤ t300) = true := decide_eq_true c17
           clear c17
           by_cases c18 : t300 < (t298.size : Int)
           ·rw [if_pos c18] at H
            have c18b0 : decide (t300 < (t298.size : Int)) = true := decide_eq_true c18
            clear c18
            by_cases c20 : (bt t298 t300) = 13
            ·rw [if_pos c20] at H
             have c20b0 : ((bt t298 t300) == 13) = true := beq_iff_eq.mpr c20
             have c20b1 : ((bt t298 t300) != 13) = false := bne_eq_false_iff_eq.mpr c20
             clear c20
             obtain ⟨ji21, hji21⟩ : ∃ j_ : Int, (wrap64 (t300 + 1)) = j_ := ⟨_, rfl⟩
             replace H : (if 0 ≤ (ji21) then (if (ji21) < (t298.size : Int) then (if (bt t298 (ji21)) = 10 then (if t300 ≤ (t298.size : Int) then (if x5_1.size + (t298.extract 0 (t300 : Int).toNat).size ≤ 9223372036854775807 then (if 0 ≤ (wrap64 (t300 + 2)) then (if (wrap64 (t300 + 2)) ≤ (t298.size : Int) then (broadsheetref19_Decode.l0 kj5 (t298.extract ((wrap64 (t300 + 2)) : Int).toNat t298.size) (x5_1 ++ (t298.extract 0 (t300 : Int).toNat))) else (none)) else (none)) else (none)) else (none)) else (some ((⟨#[]⟩ : ByteArray), (⟨#[]⟩ : ByteArray), 190))) else (none)) else (none)) = some (r1, r2, r3) := by first | (rw [hji21] at H; exact H) | (simp only [hji21] at H ⊢; exact H)
             have hji21w : (IntKind.i64.wrap (t300 + 1)) = ji21 := (i64_w _).trans hji21
             by_cases c22 : 0 ≤ (ji21)
             ·rw [if_pos c22] at H
              have c22b0 : decide (0 ≤ (ji21)) = true := decide_eq_true c22
              clear c22
              by_cases c23 : (ji21) < (t298.size : Int)
              ·rw [if_pos c23] at H
               have c23b0 : decide ((ji21) < (t298.size : Int)) = true := decide_eq_true c23
               clear c23
               by_cases c25 : (bt t298 (ji21)) = 10
               ·rw [if_pos c25] at H
                have c25b0 : ((bt t298 (ji21)) == 10) = true := beq_iff_eq.mpr c25
                have c25b1 : ((bt t298 (ji21)) != 10) = false := bne_eq_false_iff_eq.mpr c25
                clear c25
                have c26b0 := eq_true (of_decide_eq_true zb2 : 0 ≤ t300)
                by_cases c27 : t300 ≤ (t298.size : Int)
                ·rw [if_pos c27] at H
                 have c27b0 := eq_true c27
                 have c27b1 : decide (t300 ≤ (t298.size : Int)) = true := decide_eq_true c27
                 clear c27
                 by_cases c28 : x5_1.size + (t298.extract 0 (t300 : Int).toNat).size ≤ 9223372036854775807
                 ·rw [if_pos c28] at H
                  have c28b0 := eq_true c28
                  have c28b1 : decide (x5_1.size + (t298.extract 0 (t300 : Int).toNat).size ≤ 9223372036854775807) = true := decide_eq_true c28
                  try have c28b2 : (9223372036854775807 < x5_1.size + (t298.extract 0 (t300 : Int).toNat).size) = False := eq_false (Nat.not_lt.2 c28)
                  obtain ⟨nc28, hc28⟩ : ∃ n_ : Nat, n_ = x5_1.size + (t298.extract 0 (t300 : Int).toNat).size := ⟨_, rfl⟩
                  have c28m0 : nc28 ≤ 9223372036854775807 := by rw [hc28]; exact c28
                  (first | simp [go_sem, c27b0] at hc28 | simp [go_sem] at hc28 | skip)
                  rw [hc28] at c28m0
                  have c28m1 := eq_false (Nat.not_lt.2 c28m0)
                  have c28m2 := decide_eq_true c28m0
                  have c15e : wrap64 (100000 - (x5_1.size : Int)) = 100000 - (x5_1.size : Int) := by have p_ := of_eq_true c28b0; unfold wrap64; omega
                  have c15d := c15b0
                  rw [c15e] at c15d
                  clear c15e
                  clear hc28 c28m0
                  obtain ⟨ji29, hji29⟩ : ∃ j_ : Int, (wrap64 (t300 + 2)) = j_ := ⟨_, rfl⟩
                  replace H : (if 0 ≤ (ji29) then (if (ji29) ≤ (t298.size : Int) then (broadsheetref19_Decode.l0 kj5 (t298.extract ((ji29) : Int).toNat t298.size) (x5_1 ++ (t298.extract 0 (t300 : Int).toNat))) else (none)) else (none)) = some (r1, r2, r3) := by first | (rw [hji29] at H; exact H) | (simp only [hji29] at H ⊢; exact H)
                  (try rw [hji29] at c16b0)
                  have hji29w : (IntKind.i64.wrap (t300 + 2)) = ji29 := (i64_w _).trans hji29
                  by_cases c30 : 0 ≤ (ji29)
                  ·rw [if_pos c30] at H
                   have c30b0 := eq_true c30
                   have c30b1 : decide (0 ≤ (ji29)) = true := decide_eq_true c30
                   clear c30
                   by_cases c31 : (ji29) ≤ (t298.size : Int)
                   ·rw [if_pos c31] at H
                    have c31b0 := eq_true c31
                    have c31b1 : decide ((ji29) ≤ (t298.size : Int)) = true := decide_eq_true c31
                    clear c31
                    have H' := Aside0.mk H
                    clear H
                    have p19 : 0 ≤ (t300 : Int) := of_decide_eq_true zb2
                    have q19 : t300 < (t298.size : Int) := of_decide_eq_true zb2
                    have hx19 := bt_at t298 t300
                    replace p19 := eq_true p19
                    replace q19 := eq_true q19
                    have p24 : 0 ≤ ((ji21) : Int) := of_decide_eq_true zb2
                    have q24 : (ji21) < (t298.size : Int) := of_decide_eq_true zb2
                    have hx24 := bt_at t298 (ji21)
                    replace p24 := eq_true p24
                    replace q24 := eq_true q24
                    go_wp2
                    go_roundg kj5
                    case measure => have := HK1.out; have := HJ5.out; omega
                    case rel => exact ⟨(t298.extract ((ji29) : Int).toNat t298.size), (x5_1 ++ (t298.extract 0 (t300 : Int).toNat)), (by first | rfl | (simp; done) | (simp only [← hji29] <;> (first | rfl | simp)) | (simp [*]; done)), zb5, H', ⟨by have := HK1.out; have := HJ5.out; omega⟩, ⟨by repeat (first | (with_reducible first | exact HB.out | apply below_alloc | apply pw_below_drewN | apply below_drew1) | exact HB.out)⟩⟩
                   ·rw [if_neg c31] at H
                    exact absurd H zb26
                  ·rw [if_neg c30] at H
                   exact absurd H zb26
                 ·rw [if_neg c28] at H
                  exact absurd H zb26
                ·rw [if_neg c27] at H
                 exact absurd H zb26
               ·rw [if_neg c25] at H
                have c25b0 : ((bt t298 (ji21)) == 10) = false := beq_eq_false_iff_ne.mpr c25
                have c25b1 : ((bt t298 (ji21)) != 10) = true := bne_iff_ne.mpr c25
                simp only [Option.some.injEq, Prod.mk.injEq] at H
                obtain ⟨rfl, rfl, rfl⟩ := H
                have p19 : 0 ≤ (t300 : Int) := of_decide_eq_true zb2
                have q19 : t300 < (t298.size : Int) := of_decide_eq_true zb2
                have hx19 := bt_at t298 t300
                replace p19 := eq_true p19
                replace q19 := eq_true q19
                have p24 : 0 ≤ ((ji21) : Int) := of_decide_eq_true zb2
                have q24 : (ji21) < (t298.size : Int) := of_decide_eq_true zb2
                have hx24 := bt_at t298 (ji21)
                replace p24 := eq_true p24
                replace q24 := eq_true q24
                go_wp2
                go_ret3
                exact ⟨by first | rfl | (simp [errW_none, errW_some, bne_nil_] <;> rfl) | (simp only [← hji21]; first | rfl | (simp [errW_none, errW_some, bne_nil_] <;> rfl)) | (simp [*, errW_none, errW_some] <;> rfl), zb0⟩
              ·rw [if_neg c23] at H
               exact absurd H zb26
             ·rw [if_neg c22] at H
              exact absurd H zb26
            ·rw [if_neg c20] at H
             have c20b0 : ((bt t298 t300) == 13) = false := beq_eq_false_iff_ne.mpr c20
             have c20b1 : ((bt t298 t300) != 13) = true := bne_iff_ne.mpr c20
             simp only [Option.some.injEq, Prod.mk.injEq] at H
             obtain ⟨rfl, rfl, rfl⟩ := H
             have p19 : 0 ≤ (t300 : Int) := of_decide_eq_true zb2
             have q19 : t300 < (t298.size : Int) := of_decide_eq_true zb2
             have hx19 := bt_at t298 t300
             replace p19 := eq_true p19
             replace q19 := eq_true q19
             go_wp2
             go_ret3
             exact ⟨zb4, zb0⟩
           ·rw [if_neg c18] at H
            exact absurd H zb26
          ·rw [if_neg c17] at H
           exact absurd H zb26
   ·replace c3 := Bool.eq_false_iff.mpr c3
    subst c3
    replace H : (some ((⟨#[]⟩ : ByteArray), (⟨#[]⟩ : ByteArray), 190)) = some (r1, r2, r3) := by rw [if_neg (show ¬ (false = true) by decide)] at H; exact H
    simp only [Option.some.injEq, Prod.mk.injEq] at H
    obtain ⟨rfl, rfl, rfl⟩ := H
    go_wp2_with (first | ((with_reducible refine gate_callee (f := 36) rfl ?_); refine goesL_ (some 18) rfl rfl Tryz.func36 zb12 rfl #[.string x0_1] rfl zb1 ?_; (with_reducible refine (broadsheetref18_Line.calls k1 x0_1 t297 t298 false _ A2.out).mono ?_); rintro e w' ⟨rfl, ⟨nd, rfl⟩⟩; refine ⟨_, rfl, ?_⟩))
    go_ret3
    exact ⟨zb4, zb0⟩
mutual
def broadsheetref20_size.j0 : Nat → ByteArray → Bool → Option (Int)
  | 0, _, _ => none
  | k + 1, x0, x11 => if x11 = true then (some (-1)) else (broadsheetref20_size.l0 k x0 0 0)
def broadsheetref20_size.l0 : Nat → ByteArray → Int → Int → Option (Int)
  | 0, _, _, _ => none
  | k + 1, x0, x3, x4 => if x4 < (x0.size : Int) then (if 0 ≤ x4 then (if (bt x0 x4) < 48 then (some (-1)) else (if (bt x0 x4) > 57 then (some (-1)) else (broadsheetref20_size.l0 k x0 (wrap64 ((wrap64 ((wrap64 (x3 * 10)) + (wrap64 (bt x0 x4)))) - 48)) (wrap64 (x4 + 1))))) else (none)) else (some x3)
end
def broadsheetref20_size.f (k : Nat) (a0 : ByteArray) : Option (Int) := if a0.toList = ([] : List UInt8) then (broadsheetref20_size.j0 k a0 true) else (broadsheetref20_size.j0 k a0 (decide ((a0.size : Int) > 9)))
set_option maxHeartbeats 8000000 in
set_option maxRecDepth 100000 in
theorem broadsheetref20_size.calls (k : Nat) (a0 : ByteArray) (r : Int) (w : World) (h : broadsheetref20_size.f k a0 = some r) :
  Calls Tryz.prog 76 #[.string a0] w fun e w' => e = .returned (.int .i64 r) ∧ Drawn0 w w' := by
 have H : (if a0.toList = ([] : List UInt8) then (broadsheetref20_size.j0 k a0 true) else (broadsheetref20_size.j0 k a0 (decide ((a0.size : Int) > 9)))) = some r := h
 clear h
 have HC2 := Aside0.mk H
 clear H
 go_enter Tryz.func76, Tryz.ntmps76
 go_upto_region 1 with (fail)
 go_cut [11] (fun v11 wc => ∃ (kq : Nat) (x11_1 : Bool), v11 = .bool x11_1 ∧ Aside0 (broadsheetref20_size.j0 kq a0 x11_1 = some r) ∧ Aside0 (kq ≤ k) ∧ Drawn0 w wc)
 case first =>
  have H := HC2.out
  clear HC2
  by_cases c3 : a0.toList = ([] : List UInt8)
  ·rw [if_pos c3] at H
   have c3b0 : (a0.toList == ([] : List UInt8)) = true := beq_iff_eq.mpr c3
   have c3b1 : (a0.toList != ([] : List UInt8)) = false := bne_eq_false_iff_eq.mpr c3
   clear c3
   (first | rw [c3b0] | (simp only [i64_w, i32_w]; rw [c3b0]) | skip)
   have H' := Aside0.mk H
   clear H
   go_wp2
   go_meet
   case rel => exact ⟨_, (true), zb5, H', ⟨by first | omega | exact Nat.le_refl _⟩, by repeat (first | exact Drawn0.refl _ | apply Drawn0.step)⟩
  ·rw [if_neg c3] at H
   have c3b0 : (a0.toList == ([] : List UInt8)) = false := beq_eq_false_iff_ne.mpr c3
   have c3b1 : (a0.toList != ([] : List UInt8)) = true := bne_iff_ne.mpr c3
   (first | rw [c3b0] | (simp only [i64_w, i32_w]; rw [c3b0]) | skip)
   have H' := Aside0.mk H
   clear H
   go_wp2
   go_meet
   case rel => exact ⟨_, (decide ((a0.size : Int) > 9)), zb5, H', ⟨by first | omega | exact Nat.le_refl _⟩, by repeat (first | exact Drawn0.refl _ | apply Drawn0.step)⟩
 case rest =>
  clear HC2
  try clear p2
  try clear c3
  try clear c3b0
  try clear c3b1
  obtain ⟨kq, x11_1, rfl, HA, HJ1, ⟨mc1, rfl⟩⟩ := hcut
  cases kq with
  | zero => exact absurd HA.out (by simp [broadsheetref20_size.j0])
  | succ kj1 =>
   have H := HA.out
   clear HA
   simp only [broadsheetref20_size.j0] at H
   by_cases c4 : x11_1 = true
   ·subst c4
    replace H : (some (-1)) = some r := by rw [if_pos rfl] at H; exact H
    obtain rfl := Option.some.inj H
    go_wp2
    go_ret
    exact ⟨by first | rfl | (simp; done) | (simp [*]; done), by repeat (first | exact Drawn0.refl _ | apply Drawn0.step)⟩
   ·replace c4 := Bool.eq_false_iff.mpr c4
    subst c4
    replace H : (broadsheetref20_size.l0 kj1 a0 0 0) = some r := by rw [if_neg (show ¬ (false = true) by decide)] at H; exact H
    have H' := Aside0.mk H
    clear H
    go_wp2
    first | go_loopg [3, 4] kj1 (fun kq v3 v4 w' => ∃ (x3_2 : Int) (x4_2 : Int), v3 = .int .i64 x3_2 ∧ v4 = .int .i64 x4_2 ∧ Aside0 (broadsheetref20_size.l0 kq a0 x3_2 x4_2 = some r) ∧ Aside0 (kq ≤ kj1) ∧ Drawn0 w w') | (go_simp; go_loopg [3, 4] kj1 (fun kq v3 v4 w' => ∃ (x3_2 : Int) (x4_2 : Int), v3 = .int .i64 x3_2 ∧ v4 = .int .i64 x4_2 ∧ Aside0 (broadsheetref20_size.l0 kq a0 x3_2 x4_2 = some r) ∧ Aside0 (kq ≤ kj1) ∧ Drawn0 w w'))
    case atStart => exact ⟨(0), (0), zb5, zb5, H', ⟨Nat.le_refl _⟩, by repeat (first | exact Drawn0.refl _ | apply Drawn0.step)⟩
    case round =>
     clear H'
     try clear c1
     try clear p2
     try clear c3
     try clear c3b0
     try clear c3b1
     try clear c4
     try clear p2
     obtain ⟨x3_2, x4_2, rfl, rfl, HA, HK2, ⟨m2, rfl⟩⟩ := hrel
     cases gk with
     | zero => exact absurd HA.out (by simp [broadsheetref20_size.l0])
     | succ k2 =>
      have H := HA.out
      clear HA
      simp only [broadsheetref20_size.l0] at H
      by_cases c5 : x4_2 < (a0.size : Int)
      ·rw [if_pos c5] at H
       have c5b0 : decide (x4_2 < (a0.size : Int)) = true := decide_eq_true c5
       clear c5
       by_cases c6 : 0 ≤ x4_2
       ·rw [if_pos c6] at H
        have c6b0 : decide (0 ≤ x4_2) = true := decide_eq_true c6
        clear c6
        by_cases c8 : (bt a0 x4_2) < 48
        ·rw [if_pos c8] at H
         have c8b0 : decide ((bt a0 x4_2) < 48) = true := decide_eq_true c8
         clear c8
         obtain rfl := Option.some.inj H
         have p7 : 0 ≤ (x4_2 : Int) := of_decide_eq_true zb2
         have q7 : x4_2 < (a0.size : Int) := of_decide_eq_true zb2
         have hx7 := bt_at a0 x4_2
         replace p7 := eq_true p7
         replace q7 := eq_true q7
         go_wp2
         go_ret
         exact ⟨by first | rfl | (simp; done) | (simp [*]; done), by repeat (first | exact Drawn0.refl _ | apply Drawn0.step)⟩
        ·rw [if_neg c8] at H
         have c8b0 : decide ((bt a0 x4_2) < 48) = false := decide_eq_false c8
         clear c8
         by_cases c10 : (bt a0 x4_2) > 57
         ·rw [if_pos c10] at H
          have c10b0 : decide (57 < (bt a0 x4_2)) = true := decide_eq_true c10
          clear c10
          obtain rfl := Option.some.inj H
          have p7 : 0 ≤ (x4_2 : Int) := of_decide_eq_true zb2
          have q7 : x4_2 < (a0.size : Int) := of_decide_eq_true zb2
          have hx7 := bt_at a0 x4_2
          replace p7 := eq_true p7
          replace q7 := eq_true q7
          have p9 : 0 ≤ (x4_2 : Int) := of_decide_eq_true zb2
          have q9 : x4_2 < (a0.size : Int) := of_decide_eq_true zb2
          have hx9 := bt_at a0 x4_2
          replace p9 := eq_true p9
          replace q9 := eq_true q9
          go_wp2
          go_ret
          exact ⟨by first | rfl | (simp; done) | (simp [*]; done), by repeat (first | exact Drawn0.refl _ | apply Drawn0.step)⟩
         ·rw [if_neg c10] at H
          have c10b0 : decide (57 < (bt a0 x4_2)) = false := decide_eq_false c10
          clear c10
          have H' := Aside0.mk H
          clear H
          have p7 : 0 ≤ (x4_2 : Int) := of_decide_eq_true zb2
          have q7 : x4_2 < (a0.size : Int) := of_decide_eq_true zb2
          have hx7 := bt_at a0 x4_2
          replace p7 := eq_true p7
          replace q7 := eq_true q7
          have p9 : 0 ≤ (x4_2 : Int) := of_decide_eq_true zb2
          have q9 : x4_2 < (a0.size : Int) := of_decide_eq_true zb2
          have hx9 := bt_at a0 x4_2
          replace p9 := eq_true p9
          replace q9 := eq_true q9
          have p11 : 0 ≤ (x4_2 : Int) := of_decide_eq_true zb2
          have q11 : x4_2 < (a0.size : Int) := of_decide_eq_true zb2
          have hx11 := bt_at a0 x4_2
          replace p11 := eq_true p11
          replace q11 := eq_true q11
          go_wp2
          go_roundg k2
          case measure => have := HJ1.out; have := HK2.out; omega
          case rel => exact ⟨(wrap64 ((wrap64 ((wrap64 (x3_2 * 10)) + (wrap64 (bt a0 x4_2)))) - 48)), (wrap64 (x4_2 + 1)), zb5, zb5, H', ⟨by have := HJ1.out; have := HK2.out; omega⟩, by repeat (first | exact Drawn0.refl _ | apply Drawn0.step)⟩
       ·rw [if_neg c6] at H
        exact absurd H zb26
      ·rw [if_neg c5] at H
       have c5b0 : decide (x4_2 < (a0.size : Int)) = false := decide_eq_false c5
       clear c5
       obtain rfl := Option.some.inj H
       go_wp2
       go_ret
       exact ⟨by first | rfl | (simp; done) | (simp [*]; done), by repeat (first | exact Drawn0.refl _ | apply Drawn0.step)⟩
def broadsheetref20_body.j0 : Nat → ByteArray → ByteArray → Int → ByteArray → Int → Bool → Option (ByteArray × Int)
  | 0, _, _, _, _, _, _ => none
  | k + 1, x1, x6, x7, x8, x9, x24 => if x24 = true then (some ((⟨#[]⟩ : ByteArray), 190)) else (if x9 > 0 then ((broadsheetref07_Lower.f k x8).bind fun t315 => (if t315.toList = ([99, 104, 117, 110, 107, 101, 100] : List UInt8) then ((broadsheetref19_Decode.f k x1).bind fun bt316 => (if bt316.2.2 = 0 then (if bt316.2.1.toList = ([] : List UInt8) then (some (bt316.1, bt316.2.2)) else (some ((⟨#[]⟩ : ByteArray), 190))) else (some (bt316.1, bt316.2.2)))) else (some ((⟨#[]⟩ : ByteArray), 190)))) else (if x7 = 0 then (if x1.toList = ([] : List UInt8) then (some ((⟨#[]⟩ : ByteArray), 0)) else (some ((⟨#[]⟩ : ByteArray), 190))) else ((broadsheetref20_size.f k x6).bind fun t319 => (if t319 < 0 then (some ((⟨#[]⟩ : ByteArray), 190)) else (if t319 > 100000 then (some ((⟨#[]⟩ : ByteArray), 2)) else (if t319 = (x1.size : Int) then (some (x1, 0)) else (some ((⟨#[]⟩ : ByteArray), 190))))))))
def broadsheetref20_body.f (k : Nat) (l0 : List (S49)) (a1 : ByteArray) : Option (ByteArray × Int) := (broadsheetref18_Get.f k l0 (⟨#[99, 111, 110, 116, 101, 110, 116, 45, 108, 101, 110, 103, 116, 104]⟩ : ByteArray)).bind fun bt311 => ((broadsheetref18_Get.f k l0 (⟨#[116, 114, 97, 110, 115, 102, 101, 114, 45, 101, 110, 99, 111, 100, 105, 110, 103]⟩ : ByteArray)).bind fun bt313 => (if bt311.2 > 0 then (if bt313.2 > 0 then (broadsheetref20_body.j0 k a1 bt311.1 bt311.2 bt313.1 bt313.2 true) else (broadsheetref20_body.j0 k a1 bt311.1 bt311.2 bt313.1 bt313.2 (decide (bt311.2 > 1)))) else (broadsheetref20_body.j0 k a1 bt311.1 bt311.2 bt313.1 bt313.2 (decide (bt311.2 > 1)))))
set_option maxHeartbeats 8000000 in
set_option maxRecDepth 100000 in
theorem broadsheetref20_body.calls (k : Nat) (A0 : Option Addr) (c0 : Nat) (l0 : List (S49)) (a1 : ByteArray) (r1 : ByteArray) (r2 : Int) (w : World) (hr0 : Kd.C k49 w A0 l0.length l0) (hc0 : l0.length ≤ c0) (h : broadsheetref20_body.f k l0 a1 = some (r1, r2)) :
  Calls Tryz.prog 44 #[.slice A0 l0.length c0, .string a1] w fun e w' => e = .returned (.tuple #[.string r1, .int .i64 r2]) ∧ Below w.heap.size w w' := by
 have HR0 := Aside0.mk hr0
 have HC0 := Aside0.mk hc0
 clear hr0 hc0
 have HB := Aside0.mk (Below.refl w.heap.size w)
 have H : ((broadsheetref18_Get.f k l0 (⟨#[99, 111, 110, 116, 101, 110, 116, 45, 108, 101, 110, 103, 116, 104]⟩ : ByteArray)).bind fun bt311 => ((broadsheetref18_Get.f k l0 (⟨#[116, 114, 97, 110, 115, 102, 101, 114, 45, 101, 110, 99, 111, 100, 105, 110, 103]⟩ : ByteArray)).bind fun bt313 => (if bt311.2 > 0 then (if bt313.2 > 0 then (broadsheetref20_body.j0 k a1 bt311.1 bt311.2 bt313.1 bt313.2 true) else (broadsheetref20_body.j0 k a1 bt311.1 bt311.2 bt313.1 bt313.2 (decide (bt311.2 > 1)))) else (broadsheetref20_body.j0 k a1 bt311.1 bt311.2 bt313.1 bt313.2 (decide (bt311.2 > 1)))))) = some (r1, r2) := h
 clear h
 replace H := Option.bind_eq_some_iff.mp H
 obtain ⟨⟨t311, t312⟩, A30, H⟩ := H
 replace H : ((broadsheetref18_Get.f k l0 (⟨#[116, 114, 97, 110, 115, 102, 101, 114, 45, 101, 110, 99, 111, 100, 105, 110, 103]⟩ : ByteArray)).bind fun bt313 => (if t312 > 0 then (if bt313.2 > 0 then (broadsheetref20_body.j0 k a1 t311 t312 bt313.1 bt313.2 true) else (broadsheetref20_body.j0 k a1 t311 t312 bt313.1 bt313.2 (decide (t312 > 1)))) else (broadsheetref20_body.j0 k a1 t311 t312 bt313.1 bt313.2 (decide (t312 > 1))))) = some (r1, r2) := H
 have A3 := Aside0.mk A30
 clear A30
 replace H := Option.bind_eq_some_iff.mp H
 obtain ⟨⟨t313, t314⟩, A40, H⟩ := H
 replace H : (if t312 > 0 then (if t314 > 0 then (broadsheetref20_body.j0 k a1 t311 t312 t313 t314 true) else (broadsheetref20_body.j0 k a1 t311 t312 t313 t314 (decide (t312 > 1)))) else (broadsheetref20_body.j0 k a1 t311 t312 t313 t314 (decide (t312 > 1)))) = some (r1, r2) := H
 have A4 := Aside0.mk A40
 clear A40
 have HC5 := Aside0.mk H
 clear H
 go_enter Tryz.func44, Tryz.ntmps44
 go_upto_region 3 with (first | ((with_reducible refine gate_callee (f := 25) rfl ?_); refine goesL_ (some 16) rfl rfl Tryz.func25 zb12 rfl #[.slice A0 l0.length c0, .string (⟨#[99, 111, 110, 116, 101, 110, 116, 45, 108, 101, 110, 103, 116, 104]⟩ : ByteArray)] rfl zb1 ?_; (with_reducible refine (broadsheetref18_Get.calls k _ _ l0 (⟨#[99, 111, 110, 116, 101, 110, 116, 45, 108, 101, 110, 103, 116, 104]⟩ : ByteArray) t311 t312 _ ?side1 ?side2 A3.out).mono ?_); (case side1 => repeat (first | exact HR0.out | (with_reducible refine Kd.C_alloc ?_ _) | (with_reducible refine Kd.C_drewN ?_ _) | (with_reducible refine Kd.C_drew ?_))); (case side2 => exact HC0.out); rintro e w6 ⟨rfl, hb⟩; refine ⟨_, rfl, ?_⟩; have n0_ := Aside0.mk (below_step zb0 hb); clear HB; have HB := n0_; clear n0_; (try clear hb); (try clear hb2); (try clear hk); (try clear hi)) | ((with_reducible refine gate_callee (f := 25) rfl ?_); refine goesL_ (some 21) rfl rfl Tryz.func25 zb12 rfl #[.slice A0 l0.length c0, .string (⟨#[116, 114, 97, 110, 115, 102, 101, 114, 45, 101, 110, 99, 111, 100, 105, 110, 103]⟩ : ByteArray)] rfl zb1 ?_; (with_reducible refine (broadsheetref18_Get.calls k _ _ l0 (⟨#[116, 114, 97, 110, 115, 102, 101, 114, 45, 101, 110, 99, 111, 100, 105, 110, 103]⟩ : ByteArray) t313 t314 _ ?side1 ?side2 A4.out).mono ?_); (case side1 => repeat (first | exact (Kd.C_below HR0.out HB.out) | (with_reducible refine Kd.C_alloc ?_ _) | (with_reducible refine Kd.C_drewN ?_ _) | (with_reducible refine Kd.C_drew ?_))); (case side2 => exact HC0.out); rintro e w7 ⟨rfl, hb⟩; refine ⟨_, rfl, ?_⟩; have n0_ := Aside0.mk (below_step zb0 hb); clear HB; have HB := n0_; clear n0_; (try clear hb); (try clear hb2); (try clear hk); (try clear hi)))
 (try simp only [Act.put, List.setIfInBounds_toArray, List.set_cons_zero, List.set_cons_succ])
 go_cut [24] (fun v24 wc => ∃ (kq : Nat) (x24_4 : Bool), v24 = .bool x24_4 ∧ Aside0 (broadsheetref20_body.j0 kq a1 t311 t312 t313 t314 x24_4 = some (r1, r2)) ∧ Aside0 (kq ≤ k) ∧ Aside0 (Below w.heap.size w wc))
 case first =>
  have H := HC5.out
  clear HC5
  by_cases c8 : t312 > 0
  ·rw [if_pos c8] at H
   have c8b0 : decide (0 < t312) = true := decide_eq_true c8
   clear c8
   (first | rw [c8b0] | (simp only [i64_w, i32_w]; rw [c8b0]) | skip)
   by_cases c9 : t314 > 0
   ·rw [if_pos c9] at H
    have c9b0 : decide (0 < t314) = true := decide_eq_true c9
    clear c9
    have H' := Aside0.mk H
    clear H
    go_wp2
    go_meet
    case rel => exact ⟨_, (true), zb5, H', ⟨by first | omega | exact Nat.le_refl _⟩, ⟨by repeat (first | (with_reducible first | exact HB.out | apply below_alloc | apply pw_below_drewN | apply below_drew1) | exact HB.out)⟩⟩
   ·rw [if_neg c9] at H
    have c9b0 : decide (0 < t314) = false := decide_eq_false c9
    clear c9
    have H' := Aside0.mk H
    clear H
    go_wp2
    go_meet
    case rel => exact ⟨_, (decide (t312 > 1)), zb5, H', ⟨by first | omega | exact Nat.le_refl _⟩, ⟨by repeat (first | (with_reducible first | exact HB.out | apply below_alloc | apply pw_below_drewN | apply below_drew1) | exact HB.out)⟩⟩
  ·rw [if_neg c8] at H
   have c8b0 : decide (0 < t312) = false := decide_eq_false c8
   clear c8
   (first | rw [c8b0] | (simp only [i64_w, i32_w]; rw [c8b0]) | skip)
   have H' := Aside0.mk H
   clear H
   go_wp2
   go_meet
   case rel => exact ⟨_, (decide (t312 > 1)), zb5, H', ⟨by first | omega | exact Nat.le_refl _⟩, ⟨by repeat (first | (with_reducible first | exact HB.out | apply below_alloc | apply pw_below_drewN | apply below_drew1) | exact HB.out)⟩⟩
 case rest =>
  clear HC5
  try clear c2
  try clear p2
  try clear c4
  try clear c8
  try clear c8b0
  try clear c9
  try clear c9b0
  obtain ⟨kq, x24_4, rfl, HA, HJ4, HB⟩ := hcut
  cases kq with
  | zero => exact absurd HA.out (by simp [broadsheetref20_body.j0])
  | succ kj4 =>
   have H := HA.out
   clear HA
   simp only [broadsheetref20_body.j0] at H
   by_cases c10 : x24_4 = true
   ·subst c10
    replace H : (some ((⟨#[]⟩ : ByteArray), 190)) = some (r1, r2) := by rw [if_pos rfl] at H; exact H
    simp only [Option.some.injEq, Prod.mk.injEq] at H
    obtain ⟨rfl, rfl⟩ := H
    go_wp2
    go_ret2
    exact ⟨zb4, zb0⟩
   ·replace c10 := Bool.eq_false_iff.mpr c10
    subst c10
    replace H : (if t314 > 0 then ((broadsheetref07_Lower.f kj4 t313).bind fun t315 => (if t315.toList = ([99, 104, 117, 110, 107, 101, 100] : List UInt8) then ((broadsheetref19_Decode.f kj4 a1).bind fun bt316 => (if bt316.2.2 = 0 then (if bt316.2.1.toList = ([] : List UInt8) then (some (bt316.1, bt316.2.2)) else (some ((⟨#[]⟩ : ByteArray), 190))) else (some (bt316.1, bt316.2.2)))) else (some ((⟨#[]⟩ : ByteArray), 190)))) else (if t312 = 0 then (if a1.toList = ([] : List UInt8) then (some ((⟨#[]⟩ : ByteArray), 0)) else (some ((⟨#[]⟩ : ByteArray), 190))) else ((broadsheetref20_size.f kj4 t311).bind fun t319 => (if t319 < 0 then (some ((⟨#[]⟩ : ByteArray), 190)) else (if t319 > 100000 then (some ((⟨#[]⟩ : ByteArray), 2)) else (if t319 = (a1.size : Int) then (some (a1, 0)) else (some ((⟨#[]⟩ : ByteArray), 190)))))))) = some (r1, r2) := by rw [if_neg (show ¬ (false = true) by decide)] at H; exact H
    by_cases c11 : t314 > 0
    ·rw [if_pos c11] at H
     have c11b0 : decide (0 < t314) = true := decide_eq_true c11
     clear c11
     replace H := Option.bind_eq_some_iff.mp H
     obtain ⟨t315, A120, H⟩ := H
     replace H : (if t315.toList = ([99, 104, 117, 110, 107, 101, 100] : List UInt8) then ((broadsheetref19_Decode.f kj4 a1).bind fun bt316 => (if bt316.2.2 = 0 then (if bt316.2.1.toList = ([] : List UInt8) then (some (bt316.1, bt316.2.2)) else (some ((⟨#[]⟩ : ByteArray), 190))) else (some (bt316.1, bt316.2.2)))) else (some ((⟨#[]⟩ : ByteArray), 190))) = some (r1, r2) := H
     have A12 := Aside0.mk A120
     clear A120
     by_cases c13 : t315.toList = ([99, 104, 117, 110, 107, 101, 100] : List UInt8)
     ·rw [if_pos c13] at H
      have c13b0 : (t315.toList == ([99, 104, 117, 110, 107, 101, 100] : List UInt8)) = true := beq_iff_eq.mpr c13
      have c13b1 : (t315.toList != ([99, 104, 117, 110, 107, 101, 100] : List UInt8)) = false := bne_eq_false_iff_eq.mpr c13
      clear c13
      replace H := Option.bind_eq_some_iff.mp H
      obtain ⟨⟨t316, t317, t318⟩, A140, H⟩ := H
      replace H : (if t318 = 0 then (if t317.toList = ([] : List UInt8) then (some (t316, t318)) else (some ((⟨#[]⟩ : ByteArray), 190))) else (some (t316, t318))) = some (r1, r2) := H
      have A14 := Aside0.mk A140
      clear A140
      by_cases c15 : t318 = 0
      ·rw [if_pos c15] at H
       have c15b0 : (t318 == 0) = true := beq_iff_eq.mpr c15
       have c15b1 : (t318 != 0) = false := bne_eq_false_iff_eq.mpr c15
       clear c15
       by_cases c16 : t317.toList = ([] : List UInt8)
       ·rw [if_pos c16] at H
        have c16b0 : (t317.toList == ([] : List UInt8)) = true := beq_iff_eq.mpr c16
        have c16b1 : (t317.toList != ([] : List UInt8)) = false := bne_eq_false_iff_eq.mpr c16
        clear c16
        simp only [Option.some.injEq, Prod.mk.injEq] at H
        obtain ⟨rfl, rfl⟩ := H
        go_wp2_with (first | ((with_reducible refine gate_callee (f := 53) rfl ?_); refine goesL_ (some 39) rfl rfl Tryz.func53 zb12 rfl #[.string t313] rfl zb1 ?_; (with_reducible refine (broadsheetref07_Lower.calls kj4 t313 t315 _ A12.out).mono ?_); rintro e w17 ⟨rfl, hb⟩; refine ⟨_, rfl, ?_⟩; have n0_ := Aside0.mk (below_step zb0 hb); clear HB; have HB := n0_; clear n0_; (try clear hb); (try clear hb2); (try clear hk); (try clear hi)) | ((with_reducible refine gate_callee (f := 13) rfl ?_); refine goesL_ (some 43) rfl rfl Tryz.func13 zb12 rfl #[.string a1] rfl zb1 ?_; (with_reducible refine (broadsheetref19_Decode.calls kj4 a1 t316 t317 t318 _ A14.out).mono ?_); rintro e w18 ⟨rfl, hb⟩; refine ⟨_, rfl, ?_⟩; have n0_ := Aside0.mk (below_step zb0 hb); clear HB; have HB := n0_; clear n0_; (try clear hb); (try clear hb2); (try clear hk); (try clear hi)))
        go_ret2
        exact ⟨zb4, zb0⟩
       ·rw [if_neg c16] at H
        have c16b0 : (t317.toList == ([] : List UInt8)) = false := beq_eq_false_iff_ne.mpr c16
        have c16b1 : (t317.toList != ([] : List UInt8)) = true := bne_iff_ne.mpr c16
        simp only [Option.some.injEq, Prod.mk.injEq] at H
        obtain ⟨rfl, rfl⟩ := H
        go_wp2_with (first | ((with_reducible refine gate_callee (f := 53) rfl ?_); refine goesL_ (some 39) rfl rfl Tryz.func53 zb12 rfl #[.string t313] rfl zb1 ?_; (with_reducible refine (broadsheetref07_Lower.calls kj4 t313 t315 _ A12.out).mono ?_); rintro e w19 ⟨rfl, hb⟩; refine ⟨_, rfl, ?_⟩; have n0_ := Aside0.mk (below_step zb0 hb); clear HB; have HB := n0_; clear n0_; (try clear hb); (try clear hb2); (try clear hk); (try clear hi)) | ((with_reducible refine gate_callee (f := 13) rfl ?_); refine goesL_ (some 43) rfl rfl Tryz.func13 zb12 rfl #[.string a1] rfl zb1 ?_; (with_reducible refine (broadsheetref19_Decode.calls kj4 a1 t316 t317 t318 _ A14.out).mono ?_); rintro e w20 ⟨rfl, hb⟩; refine ⟨_, rfl, ?_⟩; have n0_ := Aside0.mk (below_step zb0 hb); clear HB; have HB := n0_; clear n0_; (try clear hb); (try clear hb2); (try clear hk); (try clear hi)))
        go_ret2
        exact ⟨zb4, zb0⟩
      ·rw [if_neg c15] at H
       have c15b0 : (t318 == 0) = false := beq_eq_false_iff_ne.mpr c15
       have c15b1 : (t318 != 0) = true := bne_iff_ne.mpr c15
       simp only [Option.some.injEq, Prod.mk.injEq] at H
       obtain ⟨rfl, rfl⟩ := H
       go_wp2_with (first | ((with_reducible refine gate_callee (f := 53) rfl ?_); refine goesL_ (some 39) rfl rfl Tryz.func53 zb12 rfl #[.string t313] rfl zb1 ?_; (with_reducible refine (broadsheetref07_Lower.calls kj4 t313 t315 _ A12.out).mono ?_); rintro e w21 ⟨rfl, hb⟩; refine ⟨_, rfl, ?_⟩; have n0_ := Aside0.mk (below_step zb0 hb); clear HB; have HB := n0_; clear n0_; (try clear hb); (try clear hb2); (try clear hk); (try clear hi)) | ((with_reducible refine gate_callee (f := 13) rfl ?_); refine goesL_ (some 43) rfl rfl Tryz.func13 zb12 rfl #[.string a1] rfl zb1 ?_; (with_reducible refine (broadsheetref19_Decode.calls kj4 a1 t316 t317 t318 _ A14.out).mono ?_); rintro e w22 ⟨rfl, hb⟩; refine ⟨_, rfl, ?_⟩; have n0_ := Aside0.mk (below_step zb0 hb); clear HB; have HB := n0_; clear n0_; (try clear hb); (try clear hb2); (try clear hk); (try clear hi)))
       go_ret2
       exact ⟨zb4, zb0⟩
     ·rw [if_neg c13] at H
      have c13b0 : (t315.toList == ([99, 104, 117, 110, 107, 101, 100] : List UInt8)) = false := beq_eq_false_iff_ne.mpr c13
      have c13b1 : (t315.toList != ([99, 104, 117, 110, 107, 101, 100] : List UInt8)) = true := bne_iff_ne.mpr c13
      simp only [Option.some.injEq, Prod.mk.injEq] at H
      obtain ⟨rfl, rfl⟩ := H
      go_wp2_with (first | ((with_reducible refine gate_callee (f := 53) rfl ?_); refine goesL_ (some 39) rfl rfl Tryz.func53 zb12 rfl #[.string t313] rfl zb1 ?_; (with_reducible refine (broadsheetref07_Lower.calls kj4 t313 t315 _ A12.out).mono ?_); rintro e w23 ⟨rfl, hb⟩; refine ⟨_, rfl, ?_⟩; have n0_ := Aside0.mk (below_step zb0 hb); clear HB; have HB := n0_; clear n0_; (try clear hb); (try clear hb2); (try clear hk); (try clear hi)))
      go_ret2
      exact ⟨zb4, zb0⟩
    ·rw [if_neg c11] at H
     have c11b0 : decide (0 < t314) = false := decide_eq_false c11
     clear c11
     by_cases c24 : t312 = 0
     ·rw [if_pos c24] at H
      have c24b0 : (t312 == 0) = true := beq_iff_eq.mpr c24
      have c24b1 : (t312 != 0) = false := bne_eq_false_iff_eq.mpr c24
      clear c24
      by_cases c25 : a1.toList = ([] : List UInt8)
      ·rw [if_pos c25] at H
       have c25b0 : (a1.toList == ([] : List UInt8)) = true := beq_iff_eq.mpr c25
       have c25b1 : (a1.toList != ([] : List UInt8)) = false := bne_eq_false_iff_eq.mpr c25
       clear c25
       simp only [Option.some.injEq, Prod.mk.injEq] at H
       obtain ⟨rfl, rfl⟩ := H
       go_wp2
       go_ret2
       exact ⟨zb4, zb0⟩
      ·rw [if_neg c25] at H
       have c25b0 : (a1.toList == ([] : List UInt8)) = false := beq_eq_false_iff_ne.mpr c25
       have c25b1 : (a1.toList != ([] : List UInt8)) = true := bne_iff_ne.mpr c25
       simp only [Option.some.injEq, Prod.mk.injEq] at H
       obtain ⟨rfl, rfl⟩ := H
       go_wp2
       go_ret2
       exact ⟨zb4, zb0⟩
     ·rw [if_neg c24] at H
      have c24b0 : (t312 == 0) = false := beq_eq_false_iff_ne.mpr c24
      have c24b1 : (t312 != 0) = true := bne_iff_ne.mpr c24
      replace H := Option.bind_eq_some_iff.mp H
      obtain ⟨t319, A260, H⟩ := H
      replace H : (if t319 < 0 then (some ((⟨#[]⟩ : ByteArray), 190)) else (if t319 > 100000 then (some ((⟨#[]⟩ : ByteArray), 2)) else (if t319 = (a1.size : Int) then (some (a1, 0)) else (some ((⟨#[]⟩ : ByteArray), 190))))) = some (r1, r2) := H
      have A26 := Aside0.mk A260
      clear A260
      by_cases c27 : t319 < 0
      ·rw [if_pos c27] at H
       have c27b0 : decide (t319 < 0) = true := decide_eq_true c27
       clear c27
       simp only [Option.some.injEq, Prod.mk.injEq] at H
       obtain ⟨rfl, rfl⟩ := H
       go_wp2_with (first | ((with_reducible refine gate_callee (f := 76) rfl ?_); refine goesL_ (some 61) rfl rfl Tryz.func76 zb12 rfl #[.string t311] rfl zb1 ?_; (with_reducible refine (broadsheetref20_size.calls kj4 t311 t319 _ A26.out).mono ?_); rintro e w' ⟨rfl, ⟨nd, rfl⟩⟩; refine ⟨_, rfl, ?_⟩))
       go_ret2
       exact ⟨zb4, zb0⟩
      ·rw [if_neg c27] at H
       have c27b0 : decide (t319 < 0) = false := decide_eq_false c27
       clear c27
       by_cases c28 : t319 > 100000
       ·rw [if_pos c28] at H
        have c28b0 : decide (100000 < t319) = true := decide_eq_true c28
        clear c28
        simp only [Option.some.injEq, Prod.mk.injEq] at H
        obtain ⟨rfl, rfl⟩ := H
        go_wp2_with (first | ((with_reducible refine gate_callee (f := 76) rfl ?_); refine goesL_ (some 61) rfl rfl Tryz.func76 zb12 rfl #[.string t311] rfl zb1 ?_; (with_reducible refine (broadsheetref20_size.calls kj4 t311 t319 _ A26.out).mono ?_); rintro e w' ⟨rfl, ⟨nd, rfl⟩⟩; refine ⟨_, rfl, ?_⟩))
        go_ret2
        exact ⟨zb4, zb0⟩
       ·rw [if_neg c28] at H
        have c28b0 : decide (100000 < t319) = false := decide_eq_false c28
        clear c28
        by_cases c29 : t319 = (a1.size : Int)
        ·rw [if_pos c29] at H
         have c29b0 : (t319 == (a1.size : Int)) = true := beq_iff_eq.mpr c29
         have c29b1 : (t319 != (a1.size : Int)) = false := bne_eq_false_iff_eq.mpr c29
         clear c29
         simp only [Option.some.injEq, Prod.mk.injEq] at H
         obtain ⟨rfl, rfl⟩ := H
         go_wp2_with (first | ((with_reducible refine gate_callee (f := 76) rfl ?_); refine goesL_ (some 61) rfl rfl Tryz.func76 zb12 rfl #[.string t311] rfl zb1 ?_; (with_reducible refine (broadsheetref20_size.calls kj4 t311 t319 _ A26.out).mono ?_); rintro e w' ⟨rfl, ⟨nd, rfl⟩⟩; refine ⟨_, rfl, ?_⟩))
         go_ret2
         exact ⟨zb4, zb0⟩
        ·rw [if_neg c29] at H
         have c29b0 : (t319 == (a1.size : Int)) = false := beq_eq_false_iff_ne.mpr c29
         have c29b1 : (t319 != (a1.size : Int)) = true := bne_iff_ne.mpr c29
         simp only [Option.some.injEq, Prod.mk.injEq] at H
         obtain ⟨rfl, rfl⟩ := H
         go_wp2_with (first | ((with_reducible refine gate_callee (f := 76) rfl ?_); refine goesL_ (some 61) rfl rfl Tryz.func76 zb12 rfl #[.string t311] rfl zb1 ?_; (with_reducible refine (broadsheetref20_size.calls kj4 t311 t319 _ A26.out).mono ?_); rintro e w' ⟨rfl, ⟨nd, rfl⟩⟩; refine ⟨_, rfl, ?_⟩))
         go_ret2
         exact ⟨zb4, zb0⟩
def broadsheetref20_Parse.j0 : Nat → ByteArray → ByteArray → ByteArray → Bool → Option (ByteArray × ByteArray × (List (S49)) × ByteArray × Int)
  | 0, _, _, _, _ => none
  | k + 1, x0, x4, x5, x26 => if x26 = true then (if (x0.size : Int) > 8000 then (some ((⟨#[]⟩ : ByteArray), (⟨#[]⟩ : ByteArray), ([] : List (S49)), (⟨#[]⟩ : ByteArray), 2)) else (some ((⟨#[]⟩ : ByteArray), (⟨#[]⟩ : ByteArray), ([] : List (S49)), (⟨#[]⟩ : ByteArray), 200))) else ((broadsheetref20_first.f k x4).bind fun bt324 => (if bt324.2.2 = true then ((broadsheetref18_Parse.f k x5).bind fun bt327 => (if bt327.2.2 = 0 then ((broadsheetref18_Get.f k bt327.1 (⟨#[104, 111, 115, 116]⟩ : ByteArray)).bind fun bt332 => (if bt332.2 = 1 then ((broadsheetref20_body.f k bt327.1 bt327.2.1).bind fun bt334 => (if bt334.2 = 0 then (some (bt324.1, bt324.2.1, bt327.1, bt334.1, 0)) else (some ((⟨#[]⟩ : ByteArray), (⟨#[]⟩ : ByteArray), ([] : List (S49)), (⟨#[]⟩ : ByteArray), bt334.2)))) else (some ((⟨#[]⟩ : ByteArray), (⟨#[]⟩ : ByteArray), ([] : List (S49)), (⟨#[]⟩ : ByteArray), 180)))) else (some ((⟨#[]⟩ : ByteArray), (⟨#[]⟩ : ByteArray), ([] : List (S49)), (⟨#[]⟩ : ByteArray), bt327.2.2)))) else (some ((⟨#[]⟩ : ByteArray), (⟨#[]⟩ : ByteArray), ([] : List (S49)), (⟨#[]⟩ : ByteArray), 200))))
def broadsheetref20_Parse.f (k : Nat) (a0 : ByteArray) : Option (ByteArray × ByteArray × (List (S49)) × ByteArray × Int) := (broadsheetref18_Line.f k a0).bind fun bt321 => (if bt321.2.2 = true then (broadsheetref20_Parse.j0 k a0 bt321.1 bt321.2.1 (decide ((bt321.1.size : Int) > 8000))) else (broadsheetref20_Parse.j0 k a0 bt321.1 bt321.2.1 true))
set_option maxHeartbeats 8000000 in
set_option maxRecDepth 100000 in
theorem broadsheetref20_Parse.calls (k : Nat) (a0 : ByteArray) (r1 : ByteArray) (r2 : ByteArray) (r3 : List (S49)) (r4 : ByteArray) (r5 : Int) (w : World) (h : broadsheetref20_Parse.f k a0 = some (r1, r2, r3, r4, r5)) :
  Calls Tryz.prog 18 #[.string a0] w fun e w' => ∃ v2_ : Value, e = .returned (.tuple #[.agg #[.string r1, .string r2, v2_, .string r4], .int .i64 r5]) ∧ Kd.R k49 49 w' w.heap.size (fun _ => True) v2_ r3 ∧ Below w.heap.size w w' := by
 have hu36 := Tryz.underlying36
 have HB := Aside0.mk (Below.refl w.heap.size w)
 have H : ((broadsheetref18_Line.f k a0).bind fun bt321 => (if bt321.2.2 = true then (broadsheetref20_Parse.j0 k a0 bt321.1 bt321.2.1 (decide ((bt321.1.size : Int) > 8000))) else (broadsheetref20_Parse.j0 k a0 bt321.1 bt321.2.1 true))) = some (r1, r2, r3, r4, r5) := h
 clear h
 replace H := Option.bind_eq_some_iff.mp H
 obtain ⟨⟨t321, t322, t323⟩, A20, H⟩ := H
 replace H : (if t323 = true then (broadsheetref20_Parse.j0 k a0 t321 t322 (decide ((t321.size : Int) > 8000))) else (broadsheetref20_Parse.j0 k a0 t321 t322 true)) = some (r1, r2, r3, r4, r5) := H
 have A2 := Aside0.mk A20
 clear A20
 have HC3 := Aside0.mk H
 clear H
 go_enter Tryz.func18, Tryz.ntmps18
 go_upto_region 2 with (first | ((with_reducible refine gate_dst (N := 2) rfl ?_); (try (refine gate_guard (by rfl) ?_; dsimp only)); refine box_event ?hg (N := 2) ?hd (cs := #[.string (⟨#[]⟩ : ByteArray), .string (⟨#[]⟩ : ByteArray), .slice none 0 0, .string (⟨#[]⟩ : ByteArray)]) (t := 36) ?hr ?_; (case hd => rfl); (case hg => rfl); (case hr => first | (go_simp; done) | (go_simp; rfl)); intro gb320 hg w4 hbox hb; have n0_ := Aside0.mk (below_step zb0 hb); have n1_ := Aside0.mk (hbox); have n2_ := Aside0.mk ((by rw [hg]; exact (below_size zb0) : w.heap.size ≤ gb320)); have n3_ := Aside0.mk ((by rw [hg]; exact (below_size zb0) : w.heap.size ≤ gb320)); clear HB; have HB := n0_; have BK320 := n1_; have GW320 := n2_; have GE320 := n3_; clear n0_ n1_ n2_ n3_; clear hb hbox hg) | ((with_reducible refine gate_callee (f := 36) rfl ?_); refine goesL_ (some 16) rfl rfl Tryz.func36 zb12 rfl #[.string a0] rfl zb1 ?_; (with_reducible refine (broadsheetref18_Line.calls k a0 t321 t322 t323 _ A2.out).mono ?_); rintro e w' ⟨rfl, ⟨nd, rfl⟩⟩; refine ⟨_, rfl, ?_⟩))
 (try simp only [Act.put, List.setIfInBounds_toArray, List.set_cons_zero, List.set_cons_succ])
 go_cut [26] (fun v26 wc => ∃ (kq : Nat) (x26_2 : Bool), v26 = .bool x26_2 ∧ Aside0 (broadsheetref20_Parse.j0 kq a0 t321 t322 x26_2 = some (r1, r2, r3, r4, r5)) ∧ Aside0 (kq ≤ k) ∧ Aside0 (wc.heap[gb320]? = some (.cells #[.string (⟨#[]⟩ : ByteArray), .string (⟨#[]⟩ : ByteArray), (.slice none 0 0), .string (⟨#[]⟩ : ByteArray)] 36 (0, 0))) ∧ Aside0 (Below w.heap.size w wc))
 case first =>
  have H := HC3.out
  clear HC3
  by_cases c5 : t323 = true
  ·subst c5
   replace H : (broadsheetref20_Parse.j0 k a0 t321 t322 (decide ((t321.size : Int) > 8000))) = some (r1, r2, r3, r4, r5) := by rw [if_pos rfl] at H; exact H
   have H' := Aside0.mk H
   clear H
   go_wp2
   go_meet
   case rel => exact ⟨_, (decide ((t321.size : Int) > 8000)), zb5, H', ⟨by first | omega | exact Nat.le_refl _⟩, ⟨by (with_reducible repeat (first | refine blk_drewN ?_ _ | refine blk_drew ?_ | refine blk_alloc ?_ _)); exact BK320.out⟩, ⟨by repeat (first | (with_reducible first | exact HB.out | apply below_alloc | apply pw_below_drewN | apply below_drew1 | refine below_set ?_ GE320.out) | exact HB.out)⟩⟩
  ·replace c5 := Bool.eq_false_iff.mpr c5
   subst c5
   replace H : (broadsheetref20_Parse.j0 k a0 t321 t322 true) = some (r1, r2, r3, r4, r5) := by rw [if_neg (show ¬ (false = true) by decide)] at H; exact H
   have H' := Aside0.mk H
   clear H
   go_wp2
   go_meet
   case rel => exact ⟨_, (true), zb5, H', ⟨by first | omega | exact Nat.le_refl _⟩, ⟨by (with_reducible repeat (first | refine blk_drewN ?_ _ | refine blk_drew ?_ | refine blk_alloc ?_ _)); exact BK320.out⟩, ⟨by repeat (first | (with_reducible first | exact HB.out | apply below_alloc | apply pw_below_drewN | apply below_drew1 | refine below_set ?_ GE320.out) | exact HB.out)⟩⟩
 case rest =>
  clear HC3
  try clear c1
  try clear p2
  try clear c3
  try clear c5
  obtain ⟨kq, x26_2, rfl, HA, HJ2, BK320, HB⟩ := hcut
  cases kq with
  | zero => exact absurd HA.out (by simp [broadsheetref20_Parse.j0])
  | succ kj2 =>
   have H := HA.out
   clear HA
   simp only [broadsheetref20_Parse.j0] at H
   by_cases c6 : x26_2 = true
   ·subst c6
    replace H : (if (a0.size : Int) > 8000 then (some ((⟨#[]⟩ : ByteArray), (⟨#[]⟩ : ByteArray), ([] : List (S49)), (⟨#[]⟩ : ByteArray), 2)) else (some ((⟨#[]⟩ : ByteArray), (⟨#[]⟩ : ByteArray), ([] : List (S49)), (⟨#[]⟩ : ByteArray), 200))) = some (r1, r2, r3, r4, r5) := by rw [if_pos rfl] at H; exact H
    by_cases c7 : (a0.size : Int) > 8000
    ·rw [if_pos c7] at H
     have c7b0 : decide (8000 < (a0.size : Int)) = true := decide_eq_true c7
     have c7b1 : decide (8000 < a0.size) = true := decide_eq_true zb16
     clear c7
     simp only [Option.some.injEq, Prod.mk.injEq] at H
     obtain ⟨rfl, rfl, rfl, rfl, rfl⟩ := H
     have hcz8_0 : wc.cell? ⟨gb320, 0, none⟩ = some (.string (⟨#[]⟩ : ByteArray)) := (blk_cell BK320.out 0).trans rfl
     have hcz8_1 : wc.cell? ⟨gb320, 1, none⟩ = some (.string (⟨#[]⟩ : ByteArray)) := (blk_cell BK320.out 1).trans rfl
     have hcz8_2 : wc.cell? ⟨gb320, 2, none⟩ = some (.slice none 0 0) := (blk_cell BK320.out 2).trans rfl
     have hcz8_3 : wc.cell? ⟨gb320, 3, none⟩ = some (.string (⟨#[]⟩ : ByteArray)) := (blk_cell BK320.out 3).trans rfl
     have hfz8_0 := blk_frozen BK320.out 0
     have hfz8_1 := blk_frozen BK320.out 1
     have hfz8_2 := blk_frozen BK320.out 2
     have hfz8_3 := blk_frozen BK320.out 3
     go_wp2
     refine bodyPost_ret (results_ct rfl _ _ gb320 36 #[.string (⟨#[]⟩ : ByteArray), .string (⟨#[]⟩ : ByteArray), .slice none 0 0, .string (⟨#[]⟩ : ByteArray)] (0, 0) _ rfl zb3 Tryz.underlying36 rfl zb12) rfl ?_
     exact ⟨_, by first | rfl | (simp [errW_none, errW_some, bne_nil_] <;> rfl) | (simp [*, errW_none, errW_some] <;> rfl), by first | exact Kd.R_nil _ _ _ _ _ | exact Kd.N_nil _ _ _ _ _ | exact Kd.V_nil _ _ _ _ _ | exact Kd.Q_nil _ _ _ _ _ | exact Kd.S_nil _ _ _ _ _, zb7⟩
    ·rw [if_neg c7] at H
     have c7b0 : decide (8000 < (a0.size : Int)) = false := decide_eq_false c7
     have c7b1 : decide (8000 < a0.size) = false := decide_eq_false zb16
     clear c7
     simp only [Option.some.injEq, Prod.mk.injEq] at H
     obtain ⟨rfl, rfl, rfl, rfl, rfl⟩ := H
     have hcz9_0 : wc.cell? ⟨gb320, 0, none⟩ = some (.string (⟨#[]⟩ : ByteArray)) := (blk_cell BK320.out 0).trans rfl
     have hcz9_1 : wc.cell? ⟨gb320, 1, none⟩ = some (.string (⟨#[]⟩ : ByteArray)) := (blk_cell BK320.out 1).trans rfl
     have hcz9_2 : wc.cell? ⟨gb320, 2, none⟩ = some (.slice none 0 0) := (blk_cell BK320.out 2).trans rfl
     have hcz9_3 : wc.cell? ⟨gb320, 3, none⟩ = some (.string (⟨#[]⟩ : ByteArray)) := (blk_cell BK320.out 3).trans rfl
     have hfz9_0 := blk_frozen BK320.out 0
     have hfz9_1 := blk_frozen BK320.out 1
     have hfz9_2 := blk_frozen BK320.out 2
     have hfz9_3 := blk_frozen BK320.out 3
     go_wp2
     refine bodyPost_ret (results_ct rfl _ _ gb320 36 #[.string (⟨#[]⟩ : ByteArray), .string (⟨#[]⟩ : ByteArray), .slice none 0 0, .string (⟨#[]⟩ : ByteArray)] (0, 0) _ rfl zb3 Tryz.underlying36 rfl zb12) rfl ?_
     exact ⟨_, by first | rfl | (simp [errW_none, errW_some, bne_nil_] <;> rfl) | (simp [*, errW_none, errW_some] <;> rfl), by first | exact Kd.R_nil _ _ _ _ _ | exact Kd.N_nil _ _ _ _ _ | exact Kd.V_nil _ _ _ _ _ | exact Kd.Q_nil _ _ _ _ _ | exact Kd.S_nil _ _ _ _ _, zb7⟩
   ·replace c6 := Bool.eq_false_iff.mpr c6
    subst c6
    replace H : ((broadsheetref20_first.f kj2 t321).bind fun bt324 => (if bt324.2.2 = true then ((broadsheetref18_Parse.f kj2 t322).bind fun bt327 => (if bt327.2.2 = 0 then ((broadsheetref18_Get.f kj2 bt327.1 (⟨#[104, 111, 115, 116]⟩ : ByteArray)).bind fun bt332 => (if bt332.2 = 1 then ((broadsheetref20_body.f kj2 bt327.1 bt327.2.1).bind fun bt334 => (if bt334.2 = 0 then (some (bt324.1, bt324.2.1, bt327.1, bt334.1, 0)) else (some ((⟨#[]⟩ : ByteArray), (⟨#[]⟩ : ByteArray), ([] : List (S49)), (⟨#[]⟩ : ByteArray), bt334.2)))) else (some ((⟨#[]⟩ : ByteArray), (⟨#[]⟩ : ByteArray), ([] : List (S49)), (⟨#[]⟩ : ByteArray), 180)))) else (some ((⟨#[]⟩ : ByteArray), (⟨#[]⟩ : ByteArray), ([] : List (S49)), (⟨#[]⟩ : ByteArray), bt327.2.2)))) else (some ((⟨#[]⟩ : ByteArray), (⟨#[]⟩ : ByteArray), ([] : List (S49)), (⟨#[]⟩ : ByteArray), 200)))) = some (r1, r2, r3, r4, r5) := by rw [if_neg (show ¬ (false = true) by decide)] at H; exact H
    replace H := Option.bind_eq_some_iff.mp H
    obtain ⟨⟨t324, t325, t326⟩, A100, H⟩ := H
    replace H : (if t326 = true then ((broadsheetref18_Parse.f kj2 t322).bind fun bt327 => (if bt327.2.2 = 0 then ((broadsheetref18_Get.f kj2 bt327.1 (⟨#[104, 111, 115, 116]⟩ : ByteArray)).bind fun bt332 => (if bt332.2 = 1 then ((broadsheetref20_body.f kj2 bt327.1 bt327.2.1).bind fun bt334 => (if bt334.2 = 0 then (some (t324, t325, bt327.1, bt334.1, 0)) else (some ((⟨#[]⟩ : ByteArray), (⟨#[]⟩ : ByteArray), ([] : List (S49)), (⟨#[]⟩ : ByteArray), bt334.2)))) else (some ((⟨#[]⟩ : ByteArray), (⟨#[]⟩ : ByteArray), ([] : List (S49)), (⟨#[]⟩ : ByteArray), 180)))) else (some ((⟨#[]⟩ : ByteArray), (⟨#[]⟩ : ByteArray), ([] : List (S49)), (⟨#[]⟩ : ByteArray), bt327.2.2)))) else (some ((⟨#[]⟩ : ByteArray), (⟨#[]⟩ : ByteArray), ([] : List (S49)), (⟨#[]⟩ : ByteArray), 200))) = some (r1, r2, r3, r4, r5) := H
    have A10 := Aside0.mk A100
    clear A100
    by_cases c11 : t326 = true
    ·subst c11
     replace H : ((broadsheetref18_Parse.f kj2 t322).bind fun bt327 => (if bt327.2.2 = 0 then ((broadsheetref18_Get.f kj2 bt327.1 (⟨#[104, 111, 115, 116]⟩ : ByteArray)).bind fun bt332 => (if bt332.2 = 1 then ((broadsheetref20_body.f kj2 bt327.1 bt327.2.1).bind fun bt334 => (if bt334.2 = 0 then (some (t324, t325, bt327.1, bt334.1, 0)) else (some ((⟨#[]⟩ : ByteArray), (⟨#[]⟩ : ByteArray), ([] : List (S49)), (⟨#[]⟩ : ByteArray), bt334.2)))) else (some ((⟨#[]⟩ : ByteArray), (⟨#[]⟩ : ByteArray), ([] : List (S49)), (⟨#[]⟩ : ByteArray), 180)))) else (some ((⟨#[]⟩ : ByteArray), (⟨#[]⟩ : ByteArray), ([] : List (S49)), (⟨#[]⟩ : ByteArray), bt327.2.2)))) = some (r1, r2, r3, r4, r5) := by rw [if_pos rfl] at H; exact H
     replace H := Option.bind_eq_some_iff.mp H
     obtain ⟨⟨t327, t328, t329⟩, A120, H⟩ := H
     replace H : (if t329 = 0 then ((broadsheetref18_Get.f kj2 t327 (⟨#[104, 111, 115, 116]⟩ : ByteArray)).bind fun bt332 => (if bt332.2 = 1 then ((broadsheetref20_body.f kj2 t327 t328).bind fun bt334 => (if bt334.2 = 0 then (some (t324, t325, t327, bt334.1, 0)) else (some ((⟨#[]⟩ : ByteArray), (⟨#[]⟩ : ByteArray), ([] : List (S49)), (⟨#[]⟩ : ByteArray), bt334.2)))) else (some ((⟨#[]⟩ : ByteArray), (⟨#[]⟩ : ByteArray), ([] : List (S49)), (⟨#[]⟩ : ByteArray), 180)))) else (some ((⟨#[]⟩ : ByteArray), (⟨#[]⟩ : ByteArray), ([] : List (S49)), (⟨#[]⟩ : ByteArray), t329))) = some (r1, r2, r3, r4, r5) := H
     have A12 := Aside0.mk A120
     clear A120
     by_cases c13 : t329 = 0
     ·rw [if_pos c13] at H
      have c13b0 : (t329 == 0) = true := beq_iff_eq.mpr c13
      have c13b1 : (t329 != 0) = false := bne_eq_false_iff_eq.mpr c13
      clear c13
      replace H := Option.bind_eq_some_iff.mp H
      obtain ⟨⟨t332, t333⟩, A140, H⟩ := H
      replace H : (if t333 = 1 then ((broadsheetref20_body.f kj2 t327 t328).bind fun bt334 => (if bt334.2 = 0 then (some (t324, t325, t327, bt334.1, 0)) else (some ((⟨#[]⟩ : ByteArray), (⟨#[]⟩ : ByteArray), ([] : List (S49)), (⟨#[]⟩ : ByteArray), bt334.2)))) else (some ((⟨#[]⟩ : ByteArray), (⟨#[]⟩ : ByteArray), ([] : List (S49)), (⟨#[]⟩ : ByteArray), 180))) = some (r1, r2, r3, r4, r5) := H
      have A14 := Aside0.mk A140
      clear A140
      by_cases c15 : t333 = 1
      ·rw [if_pos c15] at H
       have c15b0 : (t333 == 1) = true := beq_iff_eq.mpr c15
       have c15b1 : (t333 != 1) = false := bne_eq_false_iff_eq.mpr c15
       clear c15
       replace H := Option.bind_eq_some_iff.mp H
       obtain ⟨⟨t334, t335⟩, A160, H⟩ := H
       replace H : (if t335 = 0 then (some (t324, t325, t327, t334, 0)) else (some ((⟨#[]⟩ : ByteArray), (⟨#[]⟩ : ByteArray), ([] : List (S49)), (⟨#[]⟩ : ByteArray), t335))) = some (r1, r2, r3, r4, r5) := H
       have A16 := Aside0.mk A160
       clear A160
       by_cases c17 : t335 = 0
       ·rw [if_pos c17] at H
        have c17b0 : (t335 == 0) = true := beq_iff_eq.mpr c17
        have c17b1 : (t335 != 0) = false := bne_eq_false_iff_eq.mpr c17
        clear c17
        simp only [Option.some.injEq, Prod.mk.injEq] at H
        obtain ⟨rfl, rfl, rfl, rfl, rfl⟩ := H
        go_wp2_with (first | ((with_reducible refine gate_callee (f := 43) rfl ?_); refine goesL_ (some 34) rfl rfl Tryz.func43 zb12 rfl #[.string t321] rfl zb1 ?_; (with_reducible refine (broadsheetref20_first.calls kj2 t321 t324 t325 true _ A10.out).mono ?_); rintro e w18 ⟨rfl, hb⟩; refine ⟨_, rfl, ?_⟩; have n0_ := Aside0.mk (blk_below (g := gb320) (o := .cells #[.string (⟨#[]⟩ : ByteArray), .string (⟨#[]⟩ : ByteArray), .slice none 0 0, .string (⟨#[]⟩ : ByteArray)] 36 (0, 0)) zb15 hb); have n1_ := Aside0.mk (below_step zb7 hb); clear BK320; clear HB; have BK320 := n0_; have HB := n1_; clear n0_ n1_; (try clear hb); (try clear hb2); (try clear hk); (try clear hi)) | ((with_reducible refine gate_callee (f := 39) rfl ?_); refine goesL_ (some 43) rfl rfl Tryz.func39 zb12 rfl #[.string t322] rfl zb1 ?_; (with_reducible refine (broadsheetref18_Parse.calls kj2 t322 t327 t328 t329 _ A12.out).mono ?_); rintro e w19 ⟨v330, rfl, ho0, hb⟩; refine ⟨_, rfl, ?_⟩; have n0_ := Aside0.mk (Kd.R_lower ho0 (below_size zb7)); have n1_ := Aside0.mk (blk_below (g := gb320) (o := .cells #[.string (⟨#[]⟩ : ByteArray), .string (⟨#[]⟩ : ByteArray), .slice none 0 0, .string (⟨#[]⟩ : ByteArray)] 36 (0, 0)) zb15 hb); have n2_ := Aside0.mk (below_step zb7 hb); clear BK320; clear HB; have HO331 := n0_; have BK320 := n1_; have HB := n2_; clear n0_ n1_ n2_; (try clear hb); (try clear hb2); (try clear hk); (try clear hi); (try clear ho0); obtain ⟨Ao20, co20, eo20⟩ := Kd.R_slice HO331.out; subst eo20) | ((with_reducible refine gate_callee (f := 25) rfl ?_); refine goesL_ (some 53) rfl rfl Tryz.func25 zb12 rfl #[.slice Ao20 t327.length co20, .string (⟨#[104, 111, 115, 116]⟩ : ByteArray)] rfl zb1 ?_; (with_reducible refine (broadsheetref18_Get.calls kj2 _ _ t327 (⟨#[104, 111, 115, 116]⟩ : ByteArray) t332 t333 _ ?side1 ?side2 A14.out).mono ?_); (case side1 => repeat (first | exact (Kd.R_reads' HO331.out).2.2 | (with_reducible refine Kd.C_alloc ?_ _) | (with_reducible refine Kd.C_drewN ?_ _) | (with_reducible refine Kd.C_drew ?_))); (case side2 => exact (Kd.R_reads' HO331.out).2.1); rintro e w21 ⟨rfl, hb⟩; refine ⟨_, rfl, ?_⟩; have n0_ := Aside0.mk (Kd.R_below zb40 hb); have n1_ := Aside0.mk (blk_below (g := gb320) (o := .cells #[.string (⟨#[]⟩ : ByteArray), .string (⟨#[]⟩ : ByteArray), .slice none 0 0, .string (⟨#[]⟩ : ByteArray)] 36 (0, 0)) zb15 hb); have n2_ := Aside0.mk (below_step zb7 hb); clear HO331; clear BK320; clear HB; have HO331 := n0_; have BK320 := n1_; have HB := n2_; clear n0_ n1_ n2_; (try clear hb); (try clear hb2); (try clear hk); (try clear hi)) | ((with_reducible refine gate_callee (f := 44) rfl ?_); refine goesL_ (some 62) rfl rfl Tryz.func44 zb12 rfl #[.slice Ao20 t327.length co20, .string t328] rfl zb1 ?_; (with_reducible refine (broadsheetref20_body.calls kj2 _ _ t327 t328 t334 t335 _ ?side1 ?side2 A16.out).mono ?_); (case side1 => repeat (first | exact (Kd.R_reads' HO331.out).2.2 | (with_reducible refine Kd.C_alloc ?_ _) | (with_reducible refine Kd.C_drewN ?_ _) | (with_reducible refine Kd.C_drew ?_))); (case side2 => exact (Kd.R_reads' HO331.out).2.1); rintro e w22 ⟨rfl, hb⟩; refine ⟨_, rfl, ?_⟩; have n0_ := Aside0.mk (Kd.R_below zb40 hb); have n1_ := Aside0.mk (blk_below (g := gb320) (o := .cells #[.string (⟨#[]⟩ : ByteArray), .string (⟨#[]⟩ : ByteArray), .slice none 0 0, .string (⟨#[]⟩ : ByteArray)] 36 (0, 0)) zb15 hb); have n2_ := Aside0.mk (below_step zb7 hb); clear HO331; clear BK320; clear HB; have HO331 := n0_; have BK320 := n1_; have HB := n2_; clear n0_ n1_ n2_; (try clear hb); (try clear hb2); (try clear hk); (try clear hi); have hcz23_0 : w22.cell? ⟨gb320, 0, none⟩ = some (.string (⟨#[]⟩ : ByteArray)) := (blk_cell BK320.out 0).trans rfl; have hcz23_1 : w22.cell? ⟨gb320, 1, none⟩ = some (.string (⟨#[]⟩ : ByteArray)) := (blk_cell BK320.out 1).trans rfl; have hcz23_2 : w22.cell? ⟨gb320, 2, none⟩ = some (.slice none 0 0) := (blk_cell BK320.out 2).trans rfl; have hcz23_3 : w22.cell? ⟨gb320, 3, none⟩ = some (.string (⟨#[]⟩ : ByteArray)) := (blk_cell BK320.out 3).trans rfl; have hfz23_0 := blk_frozen BK320.out 0; have hfz23_1 := blk_frozen BK320.out 1; have hfz23_2 := blk_frozen BK320.out 2; have hfz23_3 := blk_frozen BK320.out 3))
        refine bodyPost_ret (results_ct rfl _ _ gb320 36 #[.string t324, .string t325, .slice Ao20 t327.length co20, .string t334] (0, 0) _ rfl (by (with_reducible repeat (first | refine blk_drewN ?_ _ | refine blk_drew ?_ | refine blk_alloc ?_ _)); refine blk_put (cs := #[.string t324, .string t325, .slice Ao20 t327.length co20, .string (⟨#[]⟩ : ByteArray)]) ?_ 3 _ rfl; (with_reducible repeat (first | refine blk_drewN ?_ _ | refine blk_drew ?_ | refine blk_alloc ?_ _)); refine blk_put (cs := #[.string t324, .string t325, .slice none 0 0, .string (⟨#[]⟩ : ByteArray)]) ?_ 2 _ rfl; (with_reducible repeat (first | refine blk_drewN ?_ _ | refine blk_drew ?_ | refine blk_alloc ?_ _)); refine blk_put (cs := #[.string t324, .string (⟨#[]⟩ : ByteArray), .slice none 0 0, .string (⟨#[]⟩ : ByteArray)]) ?_ 1 _ rfl; (with_reducible repeat (first | refine blk_drewN ?_ _ | refine blk_drew ?_ | refine blk_alloc ?_ _)); refine blk_put (cs := #[.string (⟨#[]⟩ : ByteArray), .string (⟨#[]⟩ : ByteArray), .slice none 0 0, .string (⟨#[]⟩ : ByteArray)]) ?_ 0 _ rfl; (with_reducible repeat (first | refine blk_drewN ?_ _ | refine blk_drew ?_ | refine blk_alloc ?_ _)); exact BK320.out) Tryz.underlying36 rfl zb12) rfl ?_
        exact ⟨_, by first | rfl | (simp [errW_none, errW_some, bne_nil_] <;> rfl) | (simp [*, errW_none, errW_some] <;> rfl), by (with_reducible repeat (first | apply Kd.R_alloc | apply Kd.R_drewN | apply Kd.R_drew)); exact Kd.R_mono (Kd.R_far (p := ⟨gb320, 3, none⟩) (Kd.R_far (p := ⟨gb320, 2, none⟩) (Kd.R_far (p := ⟨gb320, 1, none⟩) (Kd.R_far (p := ⟨gb320, 0, none⟩) (Kd.R_types HO331.out BK320.out zb20) (fun _ hk => hk.2) (.string t324)) (fun _ hk => hk.2) (.string t325)) (fun _ hk => hk.2) (.slice Ao20 t327.length co20)) (fun _ hk => hk.2) (.string t334)) (fun _ hk => trivial), zb7⟩
       ·rw [if_neg c17] at H
        have c17b0 : (t335 == 0) = false := beq_eq_false_iff_ne.mpr c17
        have c17b1 : (t335 != 0) = true := bne_iff_ne.mpr c17
        simp only [Option.some.injEq, Prod.mk.injEq] at H
        obtain ⟨rfl, rfl, rfl, rfl, rfl⟩ := H
        go_wp2_with (first | ((with_reducible refine gate_callee (f := 43) rfl ?_); refine goesL_ (some 34) rfl rfl Tryz.func43 zb12 rfl #[.string t321] rfl zb1 ?_; (with_reducible refine (broadsheetref20_first.calls kj2 t321 t324 t325 true _ A10.out).mono ?_); rintro e w24 ⟨rfl, hb⟩; refine ⟨_, rfl, ?_⟩; have n0_ := Aside0.mk (blk_below (g := gb320) (o := .cells #[.string (⟨#[]⟩ : ByteArray), .string (⟨#[]⟩ : ByteArray), .slice none 0 0, .string (⟨#[]⟩ : ByteArray)] 36 (0, 0)) zb15 hb); have n1_ := Aside0.mk (below_step zb7 hb); clear BK320; clear HB; have BK320 := n0_; have HB := n1_; clear n0_ n1_; (try clear hb); (try clear hb2); (try clear hk); (try clear hi)) | ((with_reducible refine gate_callee (f := 39) rfl ?_); refine goesL_ (some 43) rfl rfl Tryz.func39 zb12 rfl #[.string t322] rfl zb1 ?_; (with_reducible refine (broadsheetref18_Parse.calls kj2 t322 t327 t328 t329 _ A12.out).mono ?_); rintro e w25 ⟨v330, rfl, ho0, hb⟩; refine ⟨_, rfl, ?_⟩; have n0_ := Aside0.mk (Kd.R_lower ho0 (below_size zb7)); have n1_ := Aside0.mk (blk_below (g := gb320) (o := .cells #[.string (⟨#[]⟩ : ByteArray), .string (⟨#[]⟩ : ByteArray), .slice none 0 0, .string (⟨#[]⟩ : ByteArray)] 36 (0, 0)) zb15 hb); have n2_ := Aside0.mk (below_step zb7 hb); clear BK320; clear HB; have HO331 := n0_; have BK320 := n1_; have HB := n2_; clear n0_ n1_ n2_; (try clear hb); (try clear hb2); (try clear hk); (try clear hi); (try clear ho0); obtain ⟨Ao26, co26, eo26⟩ := Kd.R_slice HO331.out; subst eo26) | ((with_reducible refine gate_callee (f := 25) rfl ?_); refine goesL_ (some 53) rfl rfl Tryz.func25 zb12 rfl #[.slice Ao26 t327.length co26, .string (⟨#[104, 111, 115, 116]⟩ : ByteArray)] rfl zb1 ?_; (with_reducible refine (broadsheetref18_Get.calls kj2 _ _ t327 (⟨#[104, 111, 115, 116]⟩ : ByteArray) t332 t333 _ ?side1 ?side2 A14.out).mono ?_); (case side1 => repeat (first | exact (Kd.R_reads' HO331.out).2.2 | (with_reducible refine Kd.C_alloc ?_ _) | (with_reducible refine Kd.C_drewN ?_ _) | (with_reducible refine Kd.C_drew ?_))); (case side2 => exact (Kd.R_reads' HO331.out).2.1); rintro e w27 ⟨rfl, hb⟩; refine ⟨_, rfl, ?_⟩; have n0_ := Aside0.mk (Kd.R_below zb40 hb); have n1_ := Aside0.mk (blk_below (g := gb320) (o := .cells #[.string (⟨#[]⟩ : ByteArray), .string (⟨#[]⟩ : ByteArray), .slice none 0 0, .string (⟨#[]⟩ : ByteArray)] 36 (0, 0)) zb15 hb); have n2_ := Aside0.mk (below_step zb7 hb); clear HO331; clear BK320; clear HB; have HO331 := n0_; have BK320 := n1_; have HB := n2_; clear n0_ n1_ n2_; (try clear hb); (try clear hb2); (try clear hk); (try clear hi)) | ((with_reducible refine gate_callee (f := 44) rfl ?_); refine goesL_ (some 62) rfl rfl Tryz.func44 zb12 rfl #[.slice Ao26 t327.length co26, .string t328] rfl zb1 ?_; (with_reducible refine (broadsheetref20_body.calls kj2 _ _ t327 t328 t334 t335 _ ?side1 ?side2 A16.out).mono ?_); (case side1 => repeat (first | exact (Kd.R_reads' HO331.out).2.2 | (with_reducible refine Kd.C_alloc ?_ _) | (with_reducible refine Kd.C_drewN ?_ _) | (with_reducible refine Kd.C_drew ?_))); (case side2 => exact (Kd.R_reads' HO331.out).2.1); rintro e w28 ⟨rfl, hb⟩; refine ⟨_, rfl, ?_⟩; have n0_ := Aside0.mk (Kd.R_below zb40 hb); have n1_ := Aside0.mk (blk_below (g := gb320) (o := .cells #[.string (⟨#[]⟩ : ByteArray), .string (⟨#[]⟩ : ByteArray), .slice none 0 0, .string (⟨#[]⟩ : ByteArray)] 36 (0, 0)) zb15 hb); have n2_ := Aside0.mk (below_step zb7 hb); clear HO331; clear BK320; clear HB; have HO331 := n0_; have BK320 := n1_; have HB := n2_; clear n0_ n1_ n2_; (try clear hb); (try clear hb2); (try clear hk); (try clear hi); have hcz29_0 : w28.cell? ⟨gb320, 0, none⟩ = some (.string (⟨#[]⟩ : ByteArray)) := (blk_cell BK320.out 0).trans rfl; have hcz29_1 : w28.cell? ⟨gb320, 1, none⟩ = some (.string (⟨#[]⟩ : ByteArray)) := (blk_cell BK320.out 1).trans rfl; have hcz29_2 : w28.cell? ⟨gb320, 2, none⟩ = some (.slice none 0 0) := (blk_cell BK320.out 2).trans rfl; have hcz29_3 : w28.cell? ⟨gb320, 3, none⟩ = some (.string (⟨#[]⟩ : ByteArray)) := (blk_cell BK320.out 3).trans rfl; have hfz29_0 := blk_frozen BK320.out 0; have hfz29_1 := blk_frozen BK320.out 1; have hfz29_2 := blk_frozen BK320.out 2; have hfz29_3 := blk_frozen BK320.out 3))
        refine bodyPost_ret (results_ct rfl _ _ gb320 36 #[.string (⟨#[]⟩ : ByteArray), .string (⟨#[]⟩ : ByteArray), .slice none 0 0, .string (⟨#[]⟩ : ByteArray)] (0, 0) _ rfl zb3 Tryz.underlying36 rfl zb12) rfl ?_
        exact ⟨_, by first | rfl | (simp [errW_none, errW_some, bne_nil_] <;> rfl) | (simp [*, errW_none, errW_some] <;> rfl), by first | exact Kd.R_nil _ _ _ _ _ | exact Kd.N_nil _ _ _ _ _ | exact Kd.V_nil _ _ _ _ _ | exact Kd.Q_nil _ _ _ _ _ | exact Kd.S_nil _ _ _ _ _, zb7⟩
      ·rw [if_neg c15] at H
       have c15b0 : (t333 == 1) = false := beq_eq_false_iff_ne.mpr c15
       have c15b1 : (t333 != 1) = true := bne_iff_ne.mpr c15
       simp only [Option.some.injEq, Prod.mk.injEq] at H
       obtain ⟨rfl, rfl, rfl, rfl, rfl⟩ := H
       go_wp2_with (first | ((with_reducible refine gate_callee (f := 43) rfl ?_); refine goesL_ (some 34) rfl rfl Tryz.func43 zb12 rfl #[.string t321] rfl zb1 ?_; (with_reducible refine (broadsheetref20_first.calls kj2 t321 t324 t325 true _ A10.out).mono ?_); rintro e w30 ⟨rfl, hb⟩; refine ⟨_, rfl, ?_⟩; have n0_ := Aside0.mk (blk_below (g := gb320) (o := .cells #[.string (⟨#[]⟩ : ByteArray), .string (⟨#[]⟩ : ByteArray), .slice none 0 0, .string (⟨#[]⟩ : ByteArray)] 36 (0, 0)) zb15 hb); have n1_ := Aside0.mk (below_step zb7 hb); clear BK320; clear HB; have BK320 := n0_; have HB := n1_; clear n0_ n1_; (try clear hb); (try clear hb2); (try clear hk); (try clear hi)) | ((with_reducible refine gate_callee (f := 39) rfl ?_); refine goesL_ (some 43) rfl rfl Tryz.func39 zb12 rfl #[.string t322] rfl zb1 ?_; (with_reducible refine (broadsheetref18_Parse.calls kj2 t322 t327 t328 t329 _ A12.out).mono ?_); rintro e w31 ⟨v330, rfl, ho0, hb⟩; refine ⟨_, rfl, ?_⟩; have n0_ := Aside0.mk (Kd.R_lower ho0 (below_size zb7)); have n1_ := Aside0.mk (blk_below (g := gb320) (o := .cells #[.string (⟨#[]⟩ : ByteArray), .string (⟨#[]⟩ : ByteArray), .slice none 0 0, .string (⟨#[]⟩ : ByteArray)] 36 (0, 0)) zb15 hb); have n2_ := Aside0.mk (below_step zb7 hb); clear BK320; clear HB; have HO331 := n0_; have BK320 := n1_; have HB := n2_; clear n0_ n1_ n2_; (try clear hb); (try clear hb2); (try clear hk); (try clear hi); (try clear ho0); obtain ⟨Ao32, co32, eo32⟩ := Kd.R_slice HO331.out; subst eo32) | ((with_reducible refine gate_callee (f := 25) rfl ?_); refine goesL_ (some 53) rfl rfl Tryz.func25 zb12 rfl #[.slice Ao32 t327.length co32, .string (⟨#[104, 111, 115, 116]⟩ : ByteArray)] rfl zb1 ?_; (with_reducible refine (broadsheetref18_Get.calls kj2 _ _ t327 (⟨#[104, 111, 115, 116]⟩ : ByteArray) t332 t333 _ ?side1 ?side2 A14.out).mono ?_); (case side1 => repeat (first | exact (Kd.R_reads' HO331.out).2.2 | (with_reducible refine Kd.C_alloc ?_ _) | (with_reducible refine Kd.C_drewN ?_ _) | (with_reducible refine Kd.C_drew ?_))); (case side2 => exact (Kd.R_reads' HO331.out).2.1); rintro e w33 ⟨rfl, hb⟩; refine ⟨_, rfl, ?_⟩; have n0_ := Aside0.mk (Kd.R_below zb40 hb); have n1_ := Aside0.mk (blk_below (g := gb320) (o := .cells #[.string (⟨#[]⟩ : ByteArray), .string (⟨#[]⟩ : ByteArray), .slice none 0 0, .string (⟨#[]⟩ : ByteArray)] 36 (0, 0)) zb15 hb); have n2_ := Aside0.mk (below_step zb7 hb); clear HO331; clear BK320; clear HB; have HO331 := n0_; have BK320 := n1_; have HB := n2_; clear n0_ n1_ n2_; (try clear hb); (try clear hb2); (try clear hk); (try clear hi); have hcz34_0 : w33.cell? ⟨gb320, 0, none⟩ = some (.string (⟨#[]⟩ : ByteArray)) := (blk_cell BK320.out 0).trans rfl; have hcz34_1 : w33.cell? ⟨gb320, 1, none⟩ = some (.string (⟨#[]⟩ : ByteArray)) := (blk_cell BK320.out 1).trans rfl; have hcz34_2 : w33.cell? ⟨gb320, 2, none⟩ = some (.slice none 0 0) := (blk_cell BK320.out 2).trans rfl; have hcz34_3 : w33.cell? ⟨gb320, 3, none⟩ = some (.string (⟨#[]⟩ : ByteArray)) := (blk_cell BK320.out 3).trans rfl; have hfz34_0 := blk_frozen BK320.out 0; have hfz34_1 := blk_frozen BK320.out 1; have hfz34_2 := blk_frozen BK320.out 2; have hfz34_3 := blk_frozen BK320.out 3))
       refine bodyPost_ret (results_ct rfl _ _ gb320 36 #[.string (⟨#[]⟩ : ByteArray), .string (⟨#[]⟩ : ByteArray), .slice none 0 0, .string (⟨#[]⟩ : ByteArray)] (0, 0) _ rfl zb3 Tryz.underlying36 rfl zb12) rfl ?_
       exact ⟨_, by first | rfl | (simp [errW_none, errW_some, bne_nil_] <;> rfl) | (simp [*, errW_none, errW_some] <;> rfl), by first | exact Kd.R_nil _ _ _ _ _ | exact Kd.N_nil _ _ _ _ _ | exact Kd.V_nil _ _ _ _ _ | exact Kd.Q_nil _ _ _ _ _ | exact Kd.S_nil _ _ _ _ _, zb7⟩
     ·rw [if_neg c13] at H
      have c13b0 : (t329 == 0) = false := beq_eq_false_iff_ne.mpr c13
      have c13b1 : (t329 != 0) = true := bne_iff_ne.mpr c13
      simp only [Option.some.injEq, Prod.mk.injEq] at H
      obtain ⟨rfl, rfl, rfl, rfl, rfl⟩ := H
      go_wp2_with (first | ((with_reducible refine gate_callee (f := 43) rfl ?_); refine goesL_ (some 34) rfl rfl Tryz.func43 zb12 rfl #[.string t321] rfl zb1 ?_; (with_reducible refine (broadsheetref20_first.calls kj2 t321 t324 t325 true _ A10.out).mono ?_); rintro e w35 ⟨rfl, hb⟩; refine ⟨_, rfl, ?_⟩; have n0_ := Aside0.mk (blk_below (g := gb320) (o := .cells #[.string (⟨#[]⟩ : ByteArray), .string (⟨#[]⟩ : ByteArray), .slice none 0 0, .string (⟨#[]⟩ : ByteArray)] 36 (0, 0)) zb15 hb); have n1_ := Aside0.mk (below_step zb7 hb); clear BK320; clear HB; have BK320 := n0_; have HB := n1_; clear n0_ n1_; (try clear hb); (try clear hb2); (try clear hk); (try clear hi)) | ((with_reducible refine gate_callee (f := 39) rfl ?_); refine goesL_ (some 43) rfl rfl Tryz.func39 zb12 rfl #[.string t322] rfl zb1 ?_; (with_reducible refine (broadsheetref18_Parse.calls kj2 t322 t327 t328 t329 _ A12.out).mono ?_); rintro e w36 ⟨v330, rfl, ho0, hb⟩; refine ⟨_, rfl, ?_⟩; have n0_ := Aside0.mk (Kd.R_lower ho0 (below_size zb7)); have n1_ := Aside0.mk (blk_below (g := gb320) (o := .cells #[.string (⟨#[]⟩ : ByteArray), .string (⟨#[]⟩ : ByteArray), .slice none 0 0, .string (⟨#[]⟩ : ByteArray)] 36 (0, 0)) zb15 hb); have n2_ := Aside0.mk (below_step zb7 hb); clear BK320; clear HB; have HO331 := n0_; have BK320 := n1_; have HB := n2_; clear n0_ n1_ n2_; (try clear hb); (try clear hb2); (try clear hk); (try clear hi); (try clear ho0); have hcz37_0 : w36.cell? ⟨gb320, 0, none⟩ = some (.string (⟨#[]⟩ : ByteArray)) := (blk_cell BK320.out 0).trans rfl; have hcz37_1 : w36.cell? ⟨gb320, 1, none⟩ = some (.string (⟨#[]⟩ : ByteArray)) := (blk_cell BK320.out 1).trans rfl; have hcz37_2 : w36.cell? ⟨gb320, 2, none⟩ = some (.slice none 0 0) := (blk_cell BK320.out 2).trans rfl; have hcz37_3 : w36.cell? ⟨gb320, 3, none⟩ = some (.string (⟨#[]⟩ : ByteArray)) := (blk_cell BK320.out 3).trans rfl; have hfz37_0 := blk_frozen BK320.out 0; have hfz37_1 := blk_frozen BK320.out 1; have hfz37_2 := blk_frozen BK320.out 2; have hfz37_3 := blk_frozen BK320.out 3))
      refine bodyPost_ret (results_ct rfl _ _ gb320 36 #[.string (⟨#[]⟩ : ByteArray), .string (⟨#[]⟩ : ByteArray), .slice none 0 0, .string (⟨#[]⟩ : ByteArray)] (0, 0) _ rfl zb3 Tryz.underlying36 rfl zb12) rfl ?_
      exact ⟨_, by first | rfl | (simp [errW_none, errW_some, bne_nil_] <;> rfl) | (simp [*, errW_none, errW_some] <;> rfl), by first | exact Kd.R_nil _ _ _ _ _ | exact Kd.N_nil _ _ _ _ _ | exact Kd.V_nil _ _ _ _ _ | exact Kd.Q_nil _ _ _ _ _ | exact Kd.S_nil _ _ _ _ _, zb7⟩
    ·replace c11 := Bool.eq_false_iff.mpr c11
     subst c11
     replace H : (some ((⟨#[]⟩ : ByteArray), (⟨#[]⟩ : ByteArray), ([] : List (S49)), (⟨#[]⟩ : ByteArray), 200)) = some (r1, r2, r3, r4, r5) := by rw [if_neg (show ¬ (false = true) by decide)] at H; exact H
     simp only [Option.some.injEq, Prod.mk.injEq] at H
     obtain ⟨rfl, rfl, rfl, rfl, rfl⟩ := H
     go_wp2_with (first | ((with_reducible refine gate_callee (f := 43) rfl ?_); refine goesL_ (some 34) rfl rfl Tryz.func43 zb12 rfl #[.string t321] rfl zb1 ?_; (with_reducible refine (broadsheetref20_first.calls kj2 t321 t324 t325 false _ A10.out).mono ?_); rintro e w38 ⟨rfl, hb⟩; refine ⟨_, rfl, ?_⟩; have n0_ := Aside0.mk (blk_below (g := gb320) (o := .cells #[.string (⟨#[]⟩ : ByteArray), .string (⟨#[]⟩ : ByteArray), .slice none 0 0, .string (⟨#[]⟩ : ByteArray)] 36 (0, 0)) zb15 hb); have n1_ := Aside0.mk (below_step zb7 hb); clear BK320; clear HB; have BK320 := n0_; have HB := n1_; clear n0_ n1_; (try clear hb); (try clear hb2); (try clear hk); (try clear hi); have hcz39_0 : w38.cell? ⟨gb320, 0, none⟩ = some (.string (⟨#[]⟩ : ByteArray)) := (blk_cell BK320.out 0).trans rfl; have hcz39_1 : w38.cell? ⟨gb320, 1, none⟩ = some (.string (⟨#[]⟩ : ByteArray)) := (blk_cell BK320.out 1).trans rfl; have hcz39_2 : w38.cell? ⟨gb320, 2, none⟩ = some (.slice none 0 0) := (blk_cell BK320.out 2).trans rfl; have hcz39_3 : w38.cell? ⟨gb320, 3, none⟩ = some (.string (⟨#[]⟩ : ByteArray)) := (blk_cell BK320.out 3).trans rfl; have hfz39_0 := blk_frozen BK320.out 0; have hfz39_1 := blk_frozen BK320.out 1; have hfz39_2 := blk_frozen BK320.out 2; have hfz39_3 := blk_frozen BK320.out 3))
     refine bodyPost_ret (results_ct rfl _ _ gb320 36 #[.string (⟨#[]⟩ : ByteArray), .string (⟨#[]⟩ : ByteArray), .slice none 0 0, .string (⟨#[]⟩ : ByteArray)] (0, 0) _ rfl zb3 Tryz.underlying36 rfl zb12) rfl ?_
     exact ⟨_, by first | rfl | (simp [errW_none, errW_some, bne_nil_] <;> rfl) | (simp [*, errW_none, errW_some] <;> rfl), by first | exact Kd.R_nil _ _ _ _ _ | exact Kd.N_nil _ _ _ _ _ | exact Kd.V_nil _ _ _ _ _ | exact Kd.Q_nil _ _ _ _ _ | exact Kd.S_nil _ _ _ _ _, zb7⟩
theorem eqA49 (d : Nat) (w : World) (x0 y0 : ByteArray) (x1 y1 : ByteArray) :
    (Op.equalIn (d + 2) 49 (.agg #[.string x0, .string x1]) (.agg #[.string y0, .string y1])).run Tryz.prog w = .ok (x0.toList == y0.toList && (x1.toList == y1.toList)) w := by
  refine eqA_of Tryz.underlying49 zb12 ?_
  refine eqf_cons (by rfl) (by go_simp; rfl) (by go_simp; rfl) (by go_simp) ?_
  exact eqf_last (by rfl) (by go_simp; rfl) (by go_simp; rfl) (by go_simp)
end Go.Proofs.YteonhdfjfjpbjaaGreatDoor.P
/- Px41 -/
namespace Go.Proofs.YteonhdfjfjpbjaaGreatDoor.P
open Go.Proofs.YteonhdfjfjpbjaaGreatDoor.B
open Go.RowKit Go.Proofs.YteonhdfjfjpbjaaGreatDoorW.PrintWords Go.Proofs.YteonhdfjfjpbjaaGreatDoorW.PrintLast Go.Proofs.YteonhdfjfjpbjaaGreatDoorW.PrintMore
attribute [local go_sem] str_leq str_gtr str_geq max2_int min2_int max_two min_two max_three min_three max_four min_four
set_option linter.unusedVariables false
set_option linter.unusedSimpArgs false
attribute [local go_sem high] eqA49
def broadsheetref07_SamePairs.l0 : Nat → List (S49) → List (S49) → Int → Option (Bool)
  | 0, _, _, _ => none
  | k + 1, x0, x1, x5 => if x5 < (x0.length : Int) then (if 0 ≤ x5 then (if x5 < (x1.length : Int) then (if (!((((rd_T49 x0 x5).f0).toList) == (((rd_T49 x1 x5).f0).toList)) || (!((((rd_T49 x0 x5).f1).toList) == (((rd_T49 x1 x5).f1).toList)))) = true then (some false) else (broadsheetref07_SamePairs.l0 k x0 x1 (wrap64 (x5 + 1)))) else (none)) else (none)) else (some true)
def broadsheetref07_SamePairs.f (k : Nat) (l0 : List (S49)) (l1 : List (S49)) : Option (Bool) := if (l0.length : Int) = (l1.length : Int) then (broadsheetref07_SamePairs.l0 k l0 l1 0) else (some false)
set_option maxHeartbeats 8000000 in
set_option maxRecDepth 100000 in
theorem broadsheetref07_SamePairs.calls (k : Nat) (A0 : Option Addr) (c0 : Nat) (l0 : List (S49)) (A1 : Option Addr) (c1 : Nat) (l1 : List (S49)) (r : Bool) (w : World) (hr0 : Kd.C k49 w A0 l0.length l0) (hc0 : l0.length ≤ c0) (hr1 : Kd.C k49 w A1 l1.length l1) (hc1 : l1.length ≤ c1) (h : broadsheetref07_SamePairs.f k l0 l1 = some r) (hr : r = true) :
  Calls Tryz.prog 45 #[.slice A0 l0.length c0, .slice A1 l1.length c1] w fun e w' => e = .returned (.bool r) ∧ Drawn0 w w' := by
 have hu49 := Tryz.underlying49
 have HR0 := Aside0.mk hr0
 have HC0 := Aside0.mk hc0
 clear hr0 hc0
 have HR1 := Aside0.mk hr1
 have HC1 := Aside0.mk hc1
 clear hr1 hc1
 have H : (if (l0.length : Int) = (l1.length : Int) then (broadsheetref07_SamePairs.l0 k l0 l1 0) else (some false)) = some r := h
 clear h
 by_cases c3 : (l0.length : Int) = (l1.length : Int)
 ·rw [if_pos c3] at H
  have c3b0 : ((l0.length : Int) == (l1.length : Int)) = true := beq_iff_eq.mpr c3
  have c3b1 : ((l0.length : Int) != (l1.length : Int)) = false := bne_eq_false_iff_eq.mpr c3
  have c3b2 : (l0.length == l1.length) = true := by first | simpa using c3 | (simp at c3 ⊢; omega)
  clear c3
  have H' := Aside0.mk H
  clear H
  go_enter Tryz.func45, Tryz.ntmps45
  go_wp2
  repeat (go_quiet (fail); try go_wp2)
  first | go_loopg [5] k (fun kq v5 w' => ∃ (x5_1 : Int), v5 = .int .i64 x5_1 ∧ Aside0 (broadsheetref07_SamePairs.l0 kq l0 l1 x5_1 = some r) ∧ Aside0 (kq ≤ k) ∧ Drawn0 w w') | (go_simp; go_loopg [5] k (fun kq v5 w' => ∃ (x5_1 : Int), v5 = .int .i64 x5_1 ∧ Aside0 (broadsheetref07_SamePairs.l0 kq l0 l1 x5_1 = some r) ∧ Aside0 (kq ≤ k) ∧ Drawn0 w w'))
  case atStart => exact ⟨(0), zb5, H', ⟨Nat.le_refl _⟩, by repeat (first | exact Drawn0.refl _ | apply Drawn0.step)⟩
  case round =>
   clear H'
   try clear c1
   try clear p2
   try clear c3
   try clear c3b0
   try clear c3b1
   try clear c3b2
   obtain ⟨x5_1, rfl, HA, HK1, ⟨m1, rfl⟩⟩ := hrel
   cases gk with
   | zero => exact absurd HA.out (by simp [broadsheetref07_SamePairs.l0])
   | succ k1 =>
    have H := HA.out
    clear HA
    simp only [broadsheetref07_SamePairs.l0] at H
    by_cases c4 : x5_1 < (l0.length : Int)
    ·rw [if_pos c4] at H
     have c4b0 : decide (x5_1 < (l0.length : Int)) = true := decide_eq_true c4
     clear c4
     by_cases c5 : 0 ≤ x5_1
     ·rw [if_pos c5] at H
      have c5b0 : decide (0 ≤ x5_1) = true := decide_eq_true c5
      clear c5
      by_cases c6 : x5_1 < (l1.length : Int)
      ·rw [if_pos c6] at H
       have c6b0 : decide (x5_1 < (l1.length : Int)) = true := decide_eq_true c6
       clear c6
       by_cases c7 : (!((((rd_T49 l0 x5_1).f0).toList) == (((rd_T49 l1 x5_1).f0).toList)) || (!((((rd_T49 l0 x5_1).f1).toList) == (((rd_T49 l1 x5_1).f1).toList)))) = true
       ·rw [if_pos c7] at H
        have c7b0 : (!((((rd_T49 l0 x5_1).f0).toList) == (((rd_T49 l1 x5_1).f0).toList)) || (!((((rd_T49 l0 x5_1).f1).toList) == (((rd_T49 l1 x5_1).f1).toList)))) = true := c7
        clear c7
        obtain rfl := Option.some.inj H
        have p336 : 0 ≤ (x5_1 : Int) := of_decide_eq_true zb2
        have q336 : x5_1 < (l0.length : Int) := of_decide_eq_true zb2
        obtain ⟨ad336, e336, hx336_0, hx336_1⟩ := at_T49 HR0.out x5_1 p336 q336
        cases e336
        replace p336 := eq_true p336
        replace q336 := eq_true q336
        have p337 : 0 ≤ (x5_1 : Int) := of_decide_eq_true zb2
        have q337 : x5_1 < (l1.length : Int) := of_decide_eq_true zb2
        obtain ⟨ad337, e337, hx337_0, hx337_1⟩ := at_T49 HR1.out x5_1 p337 q337
        cases e337
        replace p337 := eq_true p337
        replace q337 := eq_true q337
        go_wp2
        repeat (go_quiet (fail); try go_wp2)
        go_ret
        exact ⟨by first | rfl | (simp; done) | (simp [*]; done), by repeat (first | exact Drawn0.refl _ | apply Drawn0.step)⟩
       ·rw [if_neg c7] at H
        have c7b0 : (!((((rd_T49 l0 x5_1).f0).toList) == (((rd_T49 l1 x5_1).f0).toList)) || (!((((rd_T49 l0 x5_1).f1).toList) == (((rd_T49 l1 x5_1).f1).toList)))) = false := by simpa using c7
        clear c7
        have H' := Aside0.mk H
        clear H
        have p336 : 0 ≤ (x5_1 : Int) := of_decide_eq_true zb2
        have q336 : x5_1 < (l0.length : Int) := of_decide_eq_true zb2
        obtain ⟨ad336, e336, hx336_0, hx336_1⟩ := at_T49 HR0.out x5_1 p336 q336
        cases e336
        replace p336 := eq_true p336
        replace q336 := eq_true q336
        have p337 : 0 ≤ (x5_1 : Int) := of_decide_eq_true zb2
        have q337 : x5_1 < (l1.length : Int) := of_decide_eq_true zb2
        obtain ⟨ad337, e337, hx337_0, hx337_1⟩ := at_T49 HR1.out x5_1 p337 q337
        cases e337
        replace p337 := eq_true p337
        replace q337 := eq_true q337
        go_wp2
        repeat (go_quiet (fail); try go_wp2)
        go_roundg k1
        case measure => have := HK1.out; omega
        case rel => exact ⟨(wrap64 (x5_1 + 1)), zb5, H', ⟨by have := HK1.out; omega⟩, by repeat (first | exact Drawn0.refl _ | apply Drawn0.step)⟩
      ·rw [if_neg c6] at H
       exact absurd H zb26
     ·rw [if_neg c5] at H
      exact absurd H zb26
    ·rw [if_neg c4] at H
     have c4b0 : decide (x5_1 < (l0.length : Int)) = false := decide_eq_false c4
     clear c4
     obtain rfl := Option.some.inj H
     go_wp2
     repeat (go_quiet (fail); try go_wp2)
     go_ret
     exact ⟨by first | rfl | (simp; done) | (simp [*]; done), by repeat (first | exact Drawn0.refl _ | apply Drawn0.step)⟩
 ·rw [if_neg c3] at H
  have c3b0 : ((l0.length : Int) == (l1.length : Int)) = false := beq_eq_false_iff_ne.mpr c3
  have c3b1 : ((l0.length : Int) != (l1.length : Int)) = true := bne_iff_ne.mpr c3
  have c3b2 : (l0.length == l1.length) = false := by first | simpa using c3 | (simp at c3 ⊢; omega)
  exact absurd ((Option.some.inj H).trans hr) zb20
end Go.Proofs.YteonhdfjfjpbjaaGreatDoor.P
/- Px42 -/
namespace Go.Proofs.YteonhdfjfjpbjaaGreatDoor.P
open Go.Proofs.YteonhdfjfjpbjaaGreatDoor.B
open Go.RowKit Go.Proofs.YteonhdfjfjpbjaaGreatDoorW.PrintWords Go.Proofs.YteonhdfjfjpbjaaGreatDoorW.PrintLast Go.Proofs.YteonhdfjfjpbjaaGreatDoorW.PrintMore
attribute [local go_sem] str_leq str_gtr str_geq max2_int min2_int max_two min_two max_three min_three max_four min_four
set_option linter.unusedVariables false
set_option linter.unusedSimpArgs false
def broadsheetref20_Same.f (k : Nat) (a0_0 : ByteArray) (a0_1 : ByteArray) (l0_2 : List (S49)) (a0_3 : ByteArray) (a1_0 : ByteArray) (a1_1 : ByteArray) (l1_2 : List (S49)) (a1_3 : ByteArray) : Option (Bool) := if a0_0.toList = a1_0.toList then (if a0_1.toList = a1_1.toList then (if a0_3.toList = a1_3.toList then ((broadsheetref07_SamePairs.f k l0_2 l1_2).bind fun t340 => (some t340)) else (some false)) else (some false)) else (some false)
set_option maxHeartbeats 8000000 in
set_option maxRecDepth 100000 in
theorem broadsheetref20_Same.calls (k : Nat) (a0_0 : ByteArray) (a0_1 : ByteArray) (A0_2 : Option Addr) (c0_2 : Nat) (l0_2 : List (S49)) (a0_3 : ByteArray) (a1_0 : ByteArray) (a1_1 : ByteArray) (A1_2 : Option Addr) (c1_2 : Nat) (l1_2 : List (S49)) (a1_3 : ByteArray) (r : Bool) (w : World) (hr0_2 : Kd.C k49 w A0_2 l0_2.length l0_2) (hc0_2 : l0_2.length ≤ c0_2) (hr1_2 : Kd.C k49 w A1_2 l1_2.length l1_2) (hc1_2 : l1_2.length ≤ c1_2) (h : broadsheetref20_Same.f k a0_0 a0_1 l0_2 a0_3 a1_0 a1_1 l1_2 a1_3 = some r) (hr : r = true) :
  Calls Tryz.prog 19 #[.agg #[.string a0_0, .string a0_1, .slice A0_2 l0_2.length c0_2, .string a0_3], .agg #[.string a1_0, .string a1_1, .slice A1_2 l1_2.length c1_2, .string a1_3]] w fun e w' => e = .returned (.bool r) ∧ Below w.heap.size w w' := by
 have hu36 := Tryz.underlying36
 have HR0_2 := Aside0.mk hr0_2
 have HC0_2 := Aside0.mk hc0_2
 clear hr0_2 hc0_2
 have HR1_2 := Aside0.mk hr1_2
 have HC1_2 := Aside0.mk hc1_2
 clear hr1_2 hc1_2
 have HB := Aside0.mk (Below.refl w.heap.size w)
 have H : (if a0_0.toList = a1_0.toList then (if a0_1.toList = a1_1.toList then (if a0_3.toList = a1_3.toList then ((broadsheetref07_SamePairs.f k l0_2 l1_2).bind fun t340 => (some t340)) else (some false)) else (some false)) else (some false)) = some r := h
 clear h
 by_cases c3 : a0_0.toList = a1_0.toList
 ·rw [if_pos c3] at H
  have c3b0 : (a0_0.toList == a1_0.toList) = true := beq_iff_eq.mpr c3
  have c3b1 : (a0_0.toList != a1_0.toList) = false := bne_eq_false_iff_eq.mpr c3
  clear c3
  by_cases c4 : a0_1.toList = a1_1.toList
  ·rw [if_pos c4] at H
   have c4b0 : (a0_1.toList == a1_1.toList) = true := beq_iff_eq.mpr c4
   have c4b1 : (a0_1.toList != a1_1.toList) = false := bne_eq_false_iff_eq.mpr c4
   clear c4
   by_cases c5 : a0_3.toList = a1_3.toList
   ·rw [if_pos c5] at H
    have c5b0 : (a0_3.toList == a1_3.toList) = true := beq_iff_eq.mpr c5
    have c5b1 : (a0_3.toList != a1_3.toList) = false := bne_eq_false_iff_eq.mpr c5
    clear c5
    replace H := Option.bind_eq_some_iff.mp H
    obtain ⟨t340, A60, H⟩ := H
    replace H : (some t340) = some r := H
    have A6 := Aside0.mk A60
    clear A60
    obtain rfl := Option.some.inj H
    go_enter Tryz.func19, Tryz.ntmps19
    go_wp2_with (first | ((with_reducible refine gate_dst (N := 2) rfl ?_); refine box_event ?hg (N := 2) ?hd (cs := #[.string a0_0, .string a0_1, .slice A0_2 l0_2.length c0_2, .string a0_3]) (t := 36) ?hr ?_; (case hd => rfl); (case hg => rfl); (case hr => first | (go_simp; done) | (go_simp; rfl)); intro gb338 hg w7 hbox hb; have n0_ := Aside0.mk (below_step zb0 hb); have n1_ := Aside0.mk (hbox); have n2_ := Aside0.mk ((by rw [hg]; exact (below_size zb0) : w.heap.size ≤ gb338)); have n3_ := Aside0.mk ((by rw [hg]; exact (below_size zb0) : w.heap.size ≤ gb338)); clear HB; have HB := n0_; have BK338 := n1_; have GW338 := n2_; have GE338 := n3_; clear n0_ n1_ n2_ n3_; clear hb hbox hg) | ((with_reducible refine gate_dst (N := 3) rfl ?_); refine box_event ?hg (N := 3) ?hd (cs := #[.string a1_0, .string a1_1, .slice A1_2 l1_2.length c1_2, .string a1_3]) (t := 36) ?hr ?_; (case hd => rfl); (case hg => rfl); (case hr => first | (go_simp; done) | (go_simp; rfl)); intro gb339 hg w8 hbox hb; have n0_ := Aside0.mk (blk_below (g := gb338) (o := .cells #[.string a0_0, .string a0_1, .slice A0_2 l0_2.length c0_2, .string a0_3] 36 (0, 0)) zb53 hb); have n1_ := Aside0.mk (below_step zb45 hb); have n2_ := Aside0.mk (hbox); have n3_ := Aside0.mk ((by rw [hg]; exact (below_size zb45) : w.heap.size ≤ gb339)); have n4_ := Aside0.mk ((by rw [hg]; exact (below_size zb45) : w.heap.size ≤ gb339)); have n5_ := Aside0.mk ((by rw [hg]; exact Nat.ne_of_lt (blk_lt (g := gb338) (o := .cells #[.string a0_0, .string a0_1, .slice A0_2 l0_2.length c0_2, .string a0_3] 36 (0, 0)) zb53) : gb338 ≠ gb339)); have n6_ := Aside0.mk ((by rw [hg]; exact Nat.ne_of_gt (blk_lt (g := gb338) (o := .cells #[.string a0_0, .string a0_1, .slice A0_2 l0_2.length c0_2, .string a0_3] 36 (0, 0)) zb53) : gb339 ≠ gb338)); clear BK338; clear HB; have BK338 := n0_; have HB := n1_; have BK339 := n2_; have GW339 := n3_; have GE339 := n4_; have NB338_339 := n5_; have NB339_338 := n6_; clear n0_ n1_ n2_ n3_ n4_ n5_ n6_; clear hb hbox hg; have hnb9 := NB338_339.out; have hnc9 := NB339_338.out; have hcz10_0 : w8.cell? ⟨gb338, 0, none⟩ = some (.string a0_0) := (blk_cell BK338.out 0).trans rfl; have hcz10_1 : w8.cell? ⟨gb338, 1, none⟩ = some (.string a0_1) := (blk_cell BK338.out 1).trans rfl; have hcz10_2 : w8.cell? ⟨gb338, 2, none⟩ = some (.slice A0_2 l0_2.length c0_2) := (blk_cell BK338.out 2).trans rfl; have hcz10_3 : w8.cell? ⟨gb338, 3, none⟩ = some (.string a0_3) := (blk_cell BK338.out 3).trans rfl; have hfz10_0 := blk_frozen BK338.out 0; have hfz10_1 := blk_frozen BK338.out 1; have hfz10_2 := blk_frozen BK338.out 2; have hfz10_3 := blk_frozen BK338.out 3; have hcz11_0 : w8.cell? ⟨gb339, 0, none⟩ = some (.string a1_0) := (blk_cell BK339.out 0).trans rfl; have hcz11_1 : w8.cell? ⟨gb339, 1, none⟩ = some (.string a1_1) := (blk_cell BK339.out 1).trans rfl; have hcz11_2 : w8.cell? ⟨gb339, 2, none⟩ = some (.slice A1_2 l1_2.length c1_2) := (blk_cell BK339.out 2).trans rfl; have hcz11_3 : w8.cell? ⟨gb339, 3, none⟩ = some (.string a1_3) := (blk_cell BK339.out 3).trans rfl; have hfz11_0 := blk_frozen BK339.out 0; have hfz11_1 := blk_frozen BK339.out 1; have hfz11_2 := blk_frozen BK339.out 2; have hfz11_3 := blk_frozen BK339.out 3) | (go_at_call 45; (with_reducible refine (broadsheetref07_SamePairs.calls k _ _ l0_2 _ _ l1_2 t340 _ ?side1 ?side2 ?side3 ?side4 A6.out (by first | rfl | exact hr)).mono ?_); (case side1 => repeat (first | exact (Kd.C_below HR0_2.out HB.out) | (with_reducible refine Kd.C_alloc ?_ _) | (with_reducible refine Kd.C_drewN ?_ _) | (with_reducible refine Kd.C_drew ?_))); (case side2 => exact HC0_2.out); (case side3 => repeat (first | exact (Kd.C_below HR1_2.out HB.out) | (with_reducible refine Kd.C_alloc ?_ _) | (with_reducible refine Kd.C_drewN ?_ _) | (with_reducible refine Kd.C_drew ?_))); (case side4 => exact HC1_2.out); rintro e w' ⟨rfl, ⟨nd, rfl⟩⟩))
    go_ret
    exact ⟨zb4, (by repeat (first | (with_reducible first | exact HB.out | apply below_alloc | apply pw_below_drewN | apply below_drew1 | refine below_set ?_ GE338.out | refine below_set ?_ GE339.out) | exact HB.out))⟩
   ·rw [if_neg c5] at H
    have c5b0 : (a0_3.toList == a1_3.toList) = false := beq_eq_false_iff_ne.mpr c5
    have c5b1 : (a0_3.toList != a1_3.toList) = true := bne_iff_ne.mpr c5
    exact absurd ((Option.some.inj H).trans hr) zb20
  ·rw [if_neg c4] at H
   have c4b0 : (a0_1.toList == a1_1.toList) = false := beq_eq_false_iff_ne.mpr c4
   have c4b1 : (a0_1.toList != a1_1.toList) = true := bne_iff_ne.mpr c4
   exact absurd ((Option.some.inj H).trans hr) zb20
 ·rw [if_neg c3] at H
  have c3b0 : (a0_0.toList == a1_0.toList) = false := beq_eq_false_iff_ne.mpr c3
  have c3b1 : (a0_0.toList != a1_0.toList) = true := bne_iff_ne.mpr c3
  exact absurd ((Option.some.inj H).trans hr) zb20
end Go.Proofs.YteonhdfjfjpbjaaGreatDoor.P
