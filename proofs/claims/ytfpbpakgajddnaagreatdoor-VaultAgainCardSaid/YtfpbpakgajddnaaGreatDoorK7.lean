/- Texts of this seat, joined: lemmas and walks that its statements' proofs use. -/
import Derived.Test.YtfpbpakgajddnaaGreatDoorK4
import Derived.Test.YtfpbpakgajddnaaGreatDoorK6
import Derived.Test.YtfpbpakgajddnaaGreatDoorRows
import Derived.Deep.Slices
import Derived.ChangeSame
import Derived.OpenShut
import Derived.ChangeOld
import Derived.Lib.SmallJoins
import Derived.LaidLaws
import Derived.MakeChecks
import Derived.HandedShaped
import Derived.Lib.LaidU8
import Derived.Lib.LaidTab
import Derived.WalkKit
import Derived.ProofKit
/- VvQ -/
namespace Go.Proofs.YtfpbpakgajddnaaGreatDoor.Pl
open Go Go.RowKit Go.Maps Go.Proofs.YtfpbpakgajddnaaGreatDoorW.PrintWords
open Go.Proofs.YtfpbpakgajddnaaGreatDoor.O (Glob)
set_option linter.unusedVariables false
set_option linter.unusedSimpArgs false
/-- What has turned, and in which blocks it lies now. -/
structure Fr (H : Nat → Prop) (w : World) (H' : Nat → Prop) (w' : World) : Prop where
  tch : Tch H w w'
  grow : ∀ i, H' i → H i ∨ w.heap.size ≤ i
section
variable {w0 w w1 w2 w' : World} {vb bp C K c1 c2 B : Nat} {v : VM} {rv : Value} {F G H H' H1 H2 : Nat → Prop} {m : Mach} {A1 A2 : Option Addr} {e : Ending}
theorem Fr.refl (H : Nat → Prop) (w : World) : Fr H w H w := ⟨Tch.refl _ _, fun i hi => .inl hi⟩
theorem Fr.of_below (h : Below w.heap.size w w') : Fr H w H w' := ⟨.of_below h, fun i hi => .inl hi⟩
theorem Fr.trans (h : Fr H w H1 w1) (g : Fr H1 w1 H2 w2) : Fr H w H2 w2 := ⟨h.tch.trans g.tch h.grow, fun i hi => by
  rcases g.grow i hi with h1 | h1
  · exact h.grow i h1
  · exact .inr (Nat.le_trans h.tch.size h1)⟩
theorem Fr.keep (h : Fr H w H' w') {k : Nat} {x : Obj} (hk : w.heap[k]? = some x) (hH : ¬ H k) : w'.heap[k]? = some x := h.tch.keep hk hH
theorem Fr.out (h : Fr H w H' w') {k : Nat} (hk : k < w.heap.size) (hH : ¬ H k) : ¬ H' k := fun h1 => by
  rcases h.grow k h1 with h2 | h2
  · exact hH h2
  · omega
theorem Fr.low (h : Fr H w H' w') {b : Nat} (hb : b ≤ w.heap.size) (hH : ∀ i, H i → b ≤ i) : ∀ i, H' i → b ≤ i := fun i hi => by
  rcases h.grow i hi with h1 | h1
  · exact hH i h1
  · omega
theorem Fr.below (h : Fr H w H' w') {b : Nat} (hb : b ≤ w.heap.size) (hH : ∀ i, H i → b ≤ i) : Below b w w' := h.tch.below hb hH
/-- The plate alone; a vault and its plate. -/
def LP (w : World) (bp : Nat) (m : Mach) (H : Nat → Prop) : Prop := ∃ F, Plate w bp m F ∧ ∀ i, F i → H i
def LV (w : World) (vb bp : Nat) (v : VM) (m : Mach) (H : Nat → Prop) : Prop := ∃ rv F, VS w vb bp v m rv F H
theorem LV.plate (h : LV w vb bp v m H) : LP w bp m H := by
  obtain ⟨rv, F, hs⟩ := h
  exact ⟨F, hs.plate, hs.inF⟩
theorem LP.tch (h : LP w bp m H) (ht : Tch G w w') (hG : ∀ i, G i → ¬ H i) : LP w' bp m H := by
  obtain ⟨F, hp, hF⟩ := h
  exact ⟨F, hp.move (fun i hi hl => ht.block i hl (fun hg => hG i hg (hF i hi))), hF⟩
theorem LV.tch (h : LV w vb bp v m H) (ht : Tch G w w') (hG : ∀ i, G i → ¬ H i) : LV w' vb bp v m H := by
  obtain ⟨rv, F, hs⟩ := h
  exact ⟨rv, F, hs.vp.tch ht (fun i hi hg => hG i hg (hs.inV i hi)), hs.plate.move (fun i hi hl => ht.block i hl (fun hg => hG i hg (hs.inF i hi))), hs.apart, hs.inF, hs.inV⟩
theorem LP.still (h : LP w bp m H) (hb : Below w.heap.size w w') : LP w' bp m H := h.tch (G := fun _ => False) (.of_below hb) (fun _ h => h.elim)
theorem LV.still (h : LV w vb bp v m H) (hb : Below w.heap.size w w') : LV w' vb bp v m H := h.tch (G := fun _ => False) (.of_below hb) (fun _ h => h.elim)
/-- Behind an operation of the plate. -/
theorem LP.done {f : FuncId} {args : Array Value} {r : Int × Mach} (h : LP w bp m H) (hd : ∀ F, Plate w bp m F → Calls Tryz.prog f args w (Done bp F w r)) : Calls Tryz.prog f args w fun e w' => e = .returned (.int .i64 r.1) ∧ ∃ H', LP w' bp r.2 H' ∧ Fr H w H' w' := by
  obtain ⟨F, hp, hF⟩ := h
  refine (hd F hp).mono ?_
  rintro e w' ⟨h1, h2, h3⟩
  exact ⟨h1, Pl.grow H w w', ⟨_, h2, fun i hi => hi.imp (hF i) id⟩, h3.mono (fun k hk _ => hF k hk), fun i hi => hi.imp id (fun h => h.1)⟩
theorem Named.short (h : Named m) : Short m := fun s hs => by
  have := nameOk_len (h.steps s hs)
  omega
theorem limit_lp (k : Int) (h : LP w bp m H) : Calls Tryz.prog 23 #[.pointer (some ⟨bp, 0, none⟩), .int .i64 k] w fun e w' => e = .returned (.tuple #[]) ∧ ∃ H', LP w' bp (limit m k) H' ∧ Fr H w H' w' := by
  obtain ⟨F, hp, hF⟩ := h
  refine (Limit_calls k hp).mono ?_
  rintro e w' ⟨h1, h2, h3⟩
  exact ⟨h1, Pl.grow H w w', ⟨_, h2, fun i hi => hi.imp (hF i) id⟩, h3.mono (fun k hk _ => hF k hk), fun i hi => hi.imp id (fun h => h.1)⟩
theorem crash_lp (a b : Int) (h : LP w bp m H) (hg : Good C K m) (hC : C ≤ 10000000) : Calls Tryz.prog 24 #[.pointer (some ⟨bp, 0, none⟩), .int .i64 a, .int .i64 b] w fun e w' => e = .returned (.tuple #[]) ∧ ∃ H', LP w' bp (crash m a b) H' ∧ Fr H w H' w' := by
  obtain ⟨F, hp, hF⟩ := h
  refine (Crash_calls a b hp hg.inv zb13 hg.named.short).mono ?_
  rintro e w' ⟨h1, h2, h3⟩
  exact ⟨h1, Pl.grow H w w', ⟨_, h2, fun i hi => hi.imp (hF i) id⟩, h3.mono (fun k hk _ => hF k hk), fun i hi => hi.imp id (fun h => h.1)⟩
theorem create_lp {x : L} (h : LP w bp m H) (hg : Good C K m) (hC : C ≤ 10000000) (hx : x.length ≤ 1000000) : Calls Tryz.prog 10 #[.pointer (some ⟨bp, 0, none⟩), .string (mkB x)] w fun e w' => e = .returned (.int .i64 (create m x).1) ∧ ∃ H', LP w' bp (create m x).2 H' ∧ Fr H w H' w' :=
  h.done (fun F hp => by
    have hc := Create_calls bp m F (mkB x) w hp hg.inv zb13 (by rw [mkB_size]; omega)
    rw [mkB_data] at hc
    exact hc)
theorem syncDir_lp (h : LP w bp m H) (hg : Good C K m) : Calls Tryz.prog 28 #[.pointer (some ⟨bp, 0, none⟩)] w fun e w' => e = .returned (.int .i64 (syncDir m).1) ∧ ∃ H', LP w' bp (syncDir m).2 H' ∧ Fr H w H' w' :=
  h.done (fun F hp => SyncDir_calls hp hg.inv)
theorem new_lp (room : Int) (w : World) (h0 : 0 ≤ room) (h1 : room ≤ 4194304) :
    Calls Tryz.prog 19 #[.int .i64 room] w fun e w' => ∃ bp, e = .returned (.tuple #[.pointer (some ⟨bp, 0, none⟩), .int .i64 0]) ∧ Below w.heap.size w w' ∧ LP w' bp (fresh room) (fun i => w.heap.size ≤ i) := by
  refine (newW_ok room w h0 h1).mono ?_
  rintro e w' ⟨bp, he, _, hp, ht⟩
  exact ⟨bp, he, ht.below (Nat.le_refl _) (fun _ h => h.elim), _, hp, fun i hi => hi.1⟩
theorem open_lp (h : LP w bp m H) (hg : Good C K m) (hC : C + 2 * K ≤ 10000000) (hG : Glob w) (hm : (read m manL).1.length ≤ 90000) :
    Calls Tryz.prog 20 #[.pointer (some ⟨bp, 0, none⟩)] w fun e w' => ∃ pv H', e = .returned (.tuple #[pv, .int .i64 (openV cdc m).1]) ∧ Fr H w H' w' ∧ (match (openV cdc m).2.1 with
      | none => pv = .pointer none ∧ LP w' bp (openV cdc m).2.2 H'
      | some v => ∃ vb, pv = .pointer (some ⟨vb, 0, none⟩) ∧ LV w' vb bp v (openV cdc m).2.2 H') := by
  obtain ⟨F, hp, hF⟩ := h
  refine (open_calls hp hg hC hG hm).mono ?_
  rintro e w' ⟨pv, he, ht, hc⟩
  refine ⟨pv, Pl.grow H w w', he, ⟨ht.mono (fun k hk _ => hF k hk), fun i hi => hi.imp id (fun h => h.1)⟩, ?_⟩
  cases ho : (openV cdc m).2.1 with
  | none =>
    rw [ho] at hc
    exact ⟨hc.1, _, hc.2, fun i hi => hi.imp (hF i) id⟩
  | some v =>
    rw [ho] at hc
    obtain ⟨vb, rv, F', h1, h2, h3⟩ := hc
    exact ⟨vb, h1, rv, F', h3.vp, h3.plate, h3.apart, fun i hi => (h3.inF i hi).imp (hF i) id, fun i hi => (h3.inV i hi).imp (hF i) id⟩
theorem commit_lv {ps : List (L × L)} {gs : List L} (h : LV w vb bp v m H) (hf : Fine v) (hB : bulk v.rows + 94 * ps.length ≤ 80000) (hput : Blobs w A1 ps) (hgone : Strs w A2 gs) (hc1 : ps.length ≤ c1) (hpd : ∀ b ∈ ps, b.2.length ≤ 1000000000) (hg : Good C K m) (hC : C + 2 * ps.length + 6 + 2 * (K + ps.length + 2) ≤ 10000000) (hG : ∀ W, Tch H w W → Glob W) :
    Calls Tryz.prog 21 #[.pointer (some ⟨vb, 0, none⟩), .slice A1 ps.length c1, .slice A2 gs.length c2] w fun e w' => e = .returned (.int .i64 (commitR cdc v ps gs m).1) ∧ ∃ H', Fr H w H' w' ∧ LV w' vb bp (commitR cdc v ps gs m).2.1 (commitR cdc v ps gs m).2.2 H' := by
  obtain ⟨rv, F, hs⟩ := h
  have hbl := bulk_len v.rows
  have fin : ∀ e w', Committed vb bp H w (commitR cdc v ps gs m) e w' → e = .returned (.int .i64 (commitR cdc v ps gs m).1) ∧ ∃ H', Fr H w H' w' ∧ LV w' vb bp (commitR cdc v ps gs m).2.1 (commitR cdc v ps gs m).2.2 H' := by
    rintro e w' ⟨h1, h2, rv', F', h3⟩
    exact ⟨h1, Pl.grow H w w', ⟨h2, fun i hi => hi.imp id (fun h => h.1)⟩, rv', F', h3⟩
  by_cases hz : checkI (v.n + 1) ps = 0
  · obtain ⟨hn1, hnm, _⟩ := commitR_good cdc v ps gs m hz
    obtain ⟨f1, f2⟩ := next_fine gs hf hn1 (fun b hb => ⟨hnm b hb, by have := hpd b hb; omega⟩) zb13
    have f3 := print_len f1
    have f4 := bulk_len (nextR cdc (v.n + 1) ps gs v.rows)
    simp only at f3
    exact (commit_ok hs hf zb13 hput hgone hc1 zb13 hpd hg hC hG hz zb13 zb13).mono fin
  · exact (commit_bad hs hf.num hput hc1 zb13 (hG w (Tch.refl _ _)) hz).mono fin
theorem get_lv (x : L) (h : LV w vb bp v m H) (hf : Fine v) (hl : v.rows.length ≤ 1000000) :
    Calls Tryz.prog 29 #[.pointer (some ⟨vb, 0, none⟩), .string (mkB x)] w fun e w' => e = .returned (.tuple #[.string (mkB (getR v m x).1), .int .i64 (getR v m x).2]) ∧ Below w.heap.size w w' := by
  obtain ⟨rv, F, hs⟩ := h
  exact get_calls x hs.vp hs.plate hf hl
theorem names_lv (h : LV w vb bp v m H) (hl : v.rows.length ≤ 1000000) :
    Calls Tryz.prog 49 #[.pointer (some ⟨vb, 0, none⟩)] w fun e w' => ∃ v', e = .returned v' ∧ OwnStrs w' w.heap.size v' (v.rows.map (·.name)) ∧ Below w.heap.size w w' := by
  obtain ⟨rv, F, hs⟩ := h
  exact names_calls hs.vp hl
theorem gen_lv (h : LV w vb bp v m H) : Calls Tryz.prog 30 #[.pointer (some ⟨vb, 0, none⟩)] w fun e w' => e = .returned (.int .i64 (v.n : Nat)) ∧ w' = w := by
  obtain ⟨rv, F, hs⟩ := h
  exact gen_calls hs.vp
end
theorem sameV_loop (xs : List ByteArray) (hx : xs.length < 1000000000) : ∀ (j i : Nat), i + j = xs.length → P.broadsheetlaw01_SameTexts.l0 (j + 1) xs xs (i : Int) = some true
  | 0, i, h => by
    unfold P.broadsheetlaw01_SameTexts.l0
    rw [if_neg zb13]
  | j + 1, i, h => by
    have hw : wrap64 ((i : Int) + 1) = ((i + 1 : Nat) : Int) := by
      rw [show (i : Int) + 1 = ((i + 1 : Nat) : Int) by omega]
      exact wrap_nat _ zb13
    unfold P.broadsheetlaw01_SameTexts.l0
    rw [if_pos zb13, if_pos zb13, if_pos zb13, if_pos rfl, hw]
    exact sameV_loop xs hx j (i + 1) zb13
theorem textsV_row {w : World} {base : Nat} {v : Value} {l : List L} (h : OwnStrs w base v l) : ∃ A c, v = .slice A l.length c ∧ l.length ≤ c ∧ Strs w A l := by
  have hr : Reps (Kd.string.K w) 1 (l.map mkB) (strsC l) := by
    unfold strsC
    refine ⟨by rw [List.length_map, List.length_map]; omega, fun j p hj => ?_⟩
    rw [List.getElem?_map] at hj
    obtain ⟨x, hx, rfl⟩ := Option.map_eq_some_iff.1 hj
    have hl := (List.getElem?_eq_some_iff.1 hx).1
    have e : ((l.map fun x => Value.string (mkB x)).drop (j * 1)).take 1 = [Value.string (mkB x)] := by
      rw [Nat.mul_one, List.drop_eq_getElem_cons (by rw [List.length_map]; exact hl), List.getElem_map, (List.getElem?_eq_some_iff.1 hx).2]
      rfl
    rw [e]
    rfl
  obtain ⟨A, c, rfl, hc⟩ := own_reads_row h hr (by rw [List.length_map])
  exact ⟨A, c, rfl, row_cap h, hc⟩
theorem sameV {w : World} {A1 A2 : Option Addr} {c1 c2 : Nat} (l : List L) (hn : l.length < 1000000000) (h1 : Strs w A1 l) (k1 : l.length ≤ c1) (h2 : Strs w A2 l) (k2 : l.length ≤ c2) :
    Calls Tryz.prog 25 #[.slice A1 l.length c1, .slice A2 l.length c2] w fun e w' => e = .returned (.bool true) ∧ Below w.heap.size w w' := by
  have hl : (l.map mkB).length = l.length := List.length_map _
  have hf : P.broadsheetlaw01_SameTexts.f ((l.map mkB).length + 1) (l.map mkB) (l.map mkB) = some true := by
    unfold P.broadsheetlaw01_SameTexts.f
    rw [if_pos rfl]
    exact sameV_loop _ (by rw [hl]; exact hn) _ 0 zb13
  have key := P.broadsheetlaw01_SameTexts.calls _ A1 c1 (l.map mkB) A2 c2 (l.map mkB) true w (by rw [hl]; exact h1) (by rw [hl]; exact k1) (by rw [hl]; exact h2) (by rw [hl]; exact k2) hf
  rw [hl] at key
  refine key.mono ?_
  rintro e w' ⟨he, hd⟩
  exact ⟨he, hd.below⟩
theorem tx_len : ∀ D : List (RowM × L), (tx D).length = 2 * D.length
  | [] => rfl
  | p :: D => by
    have := tx_len D
    show (tx D).length + 1 + 1 = 2 * (D.length + 1)
    omega
theorem tx_succ {D : List (RowM × L)} {i : Nat} {p : RowM × L} (h : D[i]? = some p) : tx (D.take (i + 1)) = tx (D.take i) ++ [p.1.name, p.2] := by
  unfold tx
  rw [List.take_add_one, h, List.flatMap_append]
  simp
theorem get_tx {C n : Nat} {D : List (RowM × L)} {m : Mach} (hi : Inv C m) (hs : Safe cdc n D m) (hR : Rising D) {p : RowM × L} (hp : p ∈ D) : getR (vm n D) m p.1.name = (p.2, 0) := by
  have key : ∀ E : List (RowM × L), Rising E → p ∈ E → ((E.map (·.1)).find? fun r => r.name == p.1.name) = some p.1 := by
    intro E
    induction E with
    | nil => intro _ h; cases h
    | cons q t ih =>
      intro hr hm
      have h1 := List.pairwise_cons.1 hr
      rw [List.map_cons, List.find?_cons]
      rcases List.mem_cons.1 hm with rfl | hm
      · have : (p.1.name == p.1.name) = true := by simp
        rw [this]
      · have hne := before_ne (h1.1 p hm)
        have : (q.1.name == p.1.name) = false := by simpa using hne
        rw [this]
        exact ih h1.2 hm
  have e := key D hR hp
  unfold getR
  show (match ((D.map (·.1)).find? fun r => r.name == p.1.name) with | some r => read m r.file | none => ([], 10)) = _
  rw [e]
  exact hs.read hi hp
section
variable {w w' : World} {vb bp C K n : Nat} {D : List (RowM × L)} {H : Nat → Prop} {m : Mach}
set_option maxRecDepth 100000 in
set_option maxHeartbeats 8000000 in
theorem kept_law (h : LV w vb bp (vm n D) m H) (hf : Fine (vm n D)) (hs : Safe cdc n D m) (hR : Rising D) (hi : Inv C m) (hl : D.length ≤ 1000000) :
    Calls Tryz.prog 22 #[.pointer (some ⟨vb, 0, none⟩)] w fun e w' => ∃ v', e = .returned (.tuple #[v', .int .i64 (n : Nat)]) ∧ OwnStrs w' w.heap.size v' (tx D) ∧ Below w.heap.size w w' := by
  obtain ⟨i0, hi0, hz⟩ := Option.map_eq_some_iff.1 strV_info
  simp only [Prod.mk.injEq] at hz
  obtain ⟨hz0, hz1, hz2⟩ := hz
  have hml : (vm n D).rows.length = D.length := List.length_map _
  have HN := Lib.hid (names_lv h zb13)
  have HGE := Lib.hid (fun (W : World) (hb : Below w.heap.size w W) => gen_lv (h.still hb))
  have HGT := Lib.hid (fun (W : World) (hb : Below w.heap.size w W) (p : RowM × L) (hp : p ∈ D) => by
    have := get_lv p.1.name (h.still hb) hf zb13
    rw [get_tx hi hs hR hp] at this
    exact this)
  have hnm : (vm n D).rows.map (·.name) = D.map fun p => p.1.name := by
    unfold vm
    rw [List.map_map]
    rfl
  rw [hnm] at HN
  have hnn : (vm n D).n = n := rfl
  rw [hnn] at HGE
  clear h hf hs hR hi hml hnm hnn
  go_enter Tryz.func22, Tryz.ntmps22
  go_wp2_with (first
    | (go_at_call 49; refine HN.out.mono ?_; rintro e w1 ⟨v1, rfl, ho1, hb1⟩; obtain ⟨A1, c1, rfl⟩ := row_slice ho1; rw [List.length_map] at *; have HO1 := Lib.hid ho1; have HB1 := Lib.hid hb1; clear ho1 hb1)
    | go_in)
  have h11 : w.heap.size ≤ w1.heap.size := HB1.out.size
  go_loopw [4, 6, 7, 8] (fun v4 v6 _ _ wr => ∃ (i : Nat), v6 = Value.int .i64 (i : Int) ∧ i ≤ D.length ∧ wr.ownsRow w1.heap.size 9 1 v4 (2 * i) (strsC (tx (D.take i))) ∧ Below w1.heap.size w1 wr)
    (fun _ v6 _ _ _ => D.length - (intOf v6).toNat)
  case atStart => exact ⟨0, rfl, Nat.zero_le _, World.ownsRow_nil _ _ _ _, Below.refl _ _⟩
  case round =>
    obtain ⟨i, rfl, hil, how, hbw⟩ := hrel
    obtain ⟨A4, c4, rfl⟩ := row_slice how
    have HOW := Lib.hid how
    have HBW := Lib.hid hbw
    have hsz := hbw.size
    have HBT := Lib.hid (HB1.out.trans (hbw.mono h11))
    by_cases hlt2 : i < D.length
    · have hdec : ((i : Int) < (D.length : Int)) := by omega
      have hin : 0 ≤ (i : Int) ∧ (i : Int) < (D.length : Int) := by omega
      obtain ⟨p, hp⟩ : ∃ p, D[i]? = some p := ⟨_, List.getElem?_eq_getElem hlt2⟩
      have hnr : ∀ W, Below w1.heap.size w1 W → W.ownsRow w.heap.size 9 1 (.slice A1 D.length c1) D.length (strsC (D.map fun p => p.1.name)) := fun W hb => by
        have := own_bel HO1.out hb
        unfold OwnStrs at this
        rw [List.length_map] at this
        exact this
      obtain ⟨b, rfl, _, hbl⟩ := row_blk (hnr wr hbw) hlt2
      have hsc : (strsC (D.map fun p => p.1.name))[i]? = some (.string (mkB p.1.name)) := by
        unfold strsC
        rw [List.map_map, List.getElem?_map, hp]
        rfl
      have n0 := (cellAt1 (hnr wr hbw) i hlt2).trans hsc
      have HNR := Lib.hid (fun (W : World) (hb : Below w1.heap.size w1 W) => (cellAt1 (hnr W hb) i hlt2).trans hsc)
      have HGX := Lib.hid (HGT.out wr HBT.out p (List.mem_of_getElem? hp))
      have HP := Lib.hid hp
      clear how hbw hnr hsc hp
      go_wp2_with (first
        | (go_at_call 29; refine HGX.out.mono ?_; rintro e w2 ⟨rfl, hb2⟩; have n2 := HNR.out w2 (HBW.out.trans (hb2.mono hsz)); have HO2 := Lib.hid (own_bel HOW.out hb2); have HB2 := Lib.hid (HBW.out.trans (hb2.mono hsz)); have hs2 := HB2.out.size; clear hb2 n0)
        | (at_builtin; refine wpList_append_own_at _ rfl _ _ 41 rfl w1.heap.size 9 i0 _ 1 16 Tryz.underlying41 hi0 hz0 hz1 hz2 rfl zb25 _ (2 * i) _ rfl (HO2.out.alloc _) ⟨w2.heap.size, 0, none⟩ 2 2 [.string (mkB p.1.name), .string (mkB p.2)] rfl rfl (fun j u hj => ?cells) (fun u hu => ?onec) (by unfold maxLen; omega) zb13 zb38 ?_; (case cells => exact cells_newF w2 _ _ rfl j u hj); (case onec => simp only [List.mem_cons, List.not_mem_nil, or_false] at hu; rcases hu with rfl | rfl <;> rfl); intro v5 w5 hown5 hgr5 hnil5 hloc5; have HO5 := Lib.hid hown5; have HG5 := Lib.hid hgr5; clear hown5 hgr5 hnil5 hloc5)
        | go_in)
      go_roundw
      case rel =>
        refine ⟨i + 1, by push_cast; rfl, by omega, ?_, (HB2.out.alloc hs2 _).grown HG5.out zb38 (fun k hk => own_base HOW.out k hk)⟩
        have h5 := HO5.out
        rw [tx_succ HP.out]
        unfold strsC at h5 ⊢
        rw [List.map_append]
        exact h5
      case measure =>
        show D.length - ((i : Int) + 1).toNat < D.length - (i : Int).toNat
        omega
    · have hdec : ¬ ((i : Int) < (D.length : Int)) := by omega
      have hie : i = D.length := by omega
      subst hie
      go_wp2_with (first
        | (go_at_call 30; refine (HGE.out wr HBT.out).mono ?_; rintro e w2 ⟨rfl, rfl⟩)
        | go_in)
      go_ret2
      refine ⟨_, rfl, ?_, HBT.out⟩
      have h5 := HOW.out
      rw [List.take_length] at h5
      unfold OwnStrs
      rw [tx_len]
      exact own_weaken h5 h11
end
end Go.Proofs.YtfpbpakgajddnaaGreatDoor.Pl
/- VaJ -/
namespace Go.Proofs.YtfpbpakgajddnaaGreatDoor.Pl
open Go
set_option linter.unusedVariables false
set_option linter.unusedSimpArgs false
def g10 : L := [103, 49, 45, 48]
def m1 : Mach := ⟨[⟨[120], []⟩], [], [(g10, some 0)], -1, 1000⟩
def m2 (s : L) : Mach := ⟨[⟨[120], []⟩, ⟨s, []⟩], [], [(g10, some 0), (newL, some 1)], -1, 1000⟩
def m3 (s : L) : Mach := ⟨[⟨[120], []⟩, ⟨s, []⟩], [(g10, 0), (newL, 1)], [], -1, 1000⟩
def m4 (s : L) : Mach := ⟨[⟨[120], []⟩, ⟨s, []⟩], [(g10, 0), (newL, 1)], [(manL, some 1), (newL, none)], -1, 1000⟩
def m5 (s : L) : Mach := ⟨[⟨[120], []⟩, ⟨s, []⟩], [(g10, 0), (manL, 1)], [], -1, 1000⟩
theorem a1 : put3 (fresh 1000) g10 [120] = (0, m1) := by rfl
theorem a2 (s : L) (h : s.length ≤ 500) : put3 m1 newL s = (0, m2 s) := by
  have e1 : create m1 newL = (0, ⟨[⟨[120], []⟩, ⟨[], []⟩], [], [(g10, some 0), (newL, some 1)], -1, 1000⟩) := by rfl
  have e2 : write ⟨[⟨[120], []⟩, ⟨[], []⟩], [], [(g10, some 0), (newL, some 1)], -1, 1000⟩ newL s = (0, ⟨[⟨[120], []⟩, ⟨[], s⟩], [], [(g10, some 0), (newL, some 1)], -1, 1000⟩) := by
    have hf : Mach.find ⟨[⟨[120], []⟩, ⟨[], []⟩], [], [(g10, some 0), (newL, some 1)], -1, 1000⟩ newL = some 1 := by rfl
    have hu : (1000 : Int) - used [⟨[120], []⟩, ⟨[], []⟩] (Mach.now ⟨[⟨[120], []⟩, ⟨[], []⟩], [], [(g10, some 0), (newL, some 1)], -1, 1000⟩) = 999 := by rfl
    unfold write
    rw [hf]
    simp only
    rw [hu, if_neg (by omega), if_neg (by decide)]
    rfl
  have e3 : sync ⟨[⟨[120], []⟩, ⟨[], s⟩], [], [(g10, some 0), (newL, some 1)], -1, 1000⟩ newL = (0, m2 s) := by
    have hf : Mach.find ⟨[⟨[120], []⟩, ⟨[], s⟩], [], [(g10, some 0), (newL, some 1)], -1, 1000⟩ newL = some 1 := by rfl
    unfold sync
    rw [hf]
    simp only
    rw [if_neg (by decide)]
    rfl
  unfold put3
  rw [e1, if_pos rfl]
  simp only
  rw [e2, if_pos rfl]
  exact e3
theorem a3 (s : L) : syncDir (m2 s) = (0, m3 s) := by rfl
theorem a4 (s : L) : rename (m3 s) newL manL = (0, m4 s) := by rfl
theorem a5 (s : L) : syncDir (m4 s) = (0, m5 s) := by rfl
theorem first_commit (c : Codec) (hn : c.name 1 0 = g10) (hl : (c.print 1 [⟨[97], g10, 1, c.sum [120]⟩]).length ≤ 500) :
    commitR c ⟨0, []⟩ [([97], [120])] [] (fresh 1000) = (0, ⟨1, [⟨[97], g10, 1, c.sum [120]⟩]⟩, m5 (c.print 1 [⟨[97], g10, 1, c.sum [120]⟩])) := by
  have hr : nextR c 1 [([97], [120])] [] [] = [⟨[97], g10, 1, c.sum [120]⟩] := by
    show [(⟨[97], c.name 1 0, 1, c.sum [120]⟩ : RowM)] = _
    rw [hn]
  generalize hs : c.print 1 [⟨[97], g10, 1, c.sum [120]⟩] = s at *
  have hst : stage c 1 [[120]] s (fresh 1000) = (0, m4 s) := by
    have hd : doPuts c 1 0 [[120]] (fresh 1000) = (0, m1) := by
      show (if (put3 (fresh 1000) (c.name 1 0) [120]).1 = 0 then _ else _) = _
      rw [hn, a1, if_pos rfl]
      rfl
    unfold stage
    rw [hd, if_pos rfl]
    simp only
    rw [a2 s hl, if_pos rfl]
    simp only
    rw [a3, if_pos rfl]
    exact a4 s
  have hsw : sweep ⟨1, [⟨[97], g10, 1, c.sum [120]⟩]⟩ (m5 s) = (0, m5 s) := by
    unfold sweep
    rw [if_pos (by rfl)]
  unfold commitR
  rw [if_neg (by decide), if_neg (by decide)]
  show commitV c ⟨0, []⟩ (nextR c 1 [([97], [120])] [] []) [[120]] (fresh 1000) = _
  rw [hr]
  unfold commitV
  show (if (stage c 1 [[120]] (c.print 1 _) (fresh 1000)).1 = 0 then _ else _) = _
  rw [hs, hst, if_pos rfl]
  simp only
  rw [a5, if_pos rfl]
  simp only
  rw [hsw]
theorem first_open (c : Codec) (k : Int) : openV c (fresh k) = (0, some ⟨0, []⟩, fresh k) := by
  have h1 : read (fresh k) manL = ([], 10) := by rfl
  have h2 : list (fresh k) = [] := by rfl
  unfold openV says
  rw [h1, if_neg (by decide)]
  simp only
  have h3 : sweep ⟨0, []⟩ (fresh k) = (0, fresh k) := by
    unfold sweep
    rw [h2]
    rfl
  rw [h3, if_pos rfl]
theorem first_get (r : Nat) (s : L) : getR ⟨1, [⟨[97], g10, 1, r⟩]⟩ (m5 s) [97] = ([120], 0) := by rfl
theorem first_list (s : L) : list (m5 s) = [g10, manL] := by rfl
end Go.Proofs.YtfpbpakgajddnaaGreatDoor.Pl
/- VvS -/
namespace Go.Proofs.YtfpbpakgajddnaaGreatDoor.Pl
open Go Go.RowKit Go.Maps Go.Proofs.YtfpbpakgajddnaaGreatDoorW.PrintWords
open Go.Proofs.YtfpbpakgajddnaaGreatDoor.O (Glob)
set_option linter.unusedVariables false
set_option linter.unusedSimpArgs false
theorem reps_toB1 (w : World) (b : L × L) : Reps (P.k28.K w) 2 [toB b] [.string (mkB b.1), .string (mkB b.2)] := by
  refine ⟨rfl, fun j p hj => ?_⟩
  match j with
  | 0 =>
    obtain rfl := Option.some.inj hj
    exact P.k28_mk w (toB b)
  | j + 1 => simp at hj
theorem blobs1 (w : World) (b : L × L) : Blobs (w.alloc (.cells #[.string (mkB b.1), .string (mkB b.2)] 28 (0, 0))) (some ⟨w.heap.size, 0, none⟩) [b] := by
  have ho : (w.alloc (.cells #[.string (mkB b.1), .string (mkB b.2)] 28 (0, 0))).ownsRow 0 28 2 (.slice (some ⟨w.heap.size, 0, none⟩) 1 1) 1 [.string (mkB b.1), .string (mkB b.2)] :=
    own_blk_mk (cs := [.string (mkB b.1), .string (mkB b.2)]) (alloc_new w _) rfl rfl (Nat.zero_le _) (Nat.le_refl _) zb25
  obtain ⟨A, c, e, h⟩ := own_reads_row ho (reps_toB1 _ b) rfl
  injection e with e1 _ _
  rw [e1]
  exact h
theorem strs_nil (w : World) : Strs w none [] := by
  obtain ⟨A, c, e, h⟩ := own_reads_row (R := Kd.string.K w) (ps := ([] : List ByteArray)) (World.ownsRow_nil w 0 9 1) (show Reps (Kd.string.K w) 1 [] [] from ⟨rfl, fun j p hj => by simp at hj⟩) rfl
  injection e with e1 _ _
  rw [e1]
  exact h
theorem name10 : cdc.name 1 0 = g10 := by
  show [103] ++ Mn.dec ((1 : Nat) : Int) ++ [45] ++ Mn.dec ((0 : Nat) : Int) = g10
  unfold Mn.dec
  show [103] ++ Lib.decDigits 1 ++ [45] ++ Lib.decDigits 0 = g10
  rw [Lib.decDigits, Lib.decDigits.eq_1 0]
  rfl
noncomputable def row1 : RowM := ⟨[97], g10, 1, cdc.sum [120]⟩
theorem next1 : nextR cdc 1 [([97], [120])] [] [] = [row1] := by
  show [(⟨[97], cdc.name 1 0, 1, cdc.sum [120]⟩ : RowM)] = _
  rw [name10]
  rfl
theorem fine1 : Fine ⟨1, [row1]⟩ ∧ bulk [row1] ≤ 94 := by
  have h := next_fine (v := ⟨0, []⟩) (ps := [([97], [120])]) [] Fine.empty zb25 (fun b hb => by
    rw [List.mem_singleton.1 hb]
    exact ⟨by decide, by decide⟩) zb25
  have e : nextR cdc ((⟨0, []⟩ : VM).n + 1) [([97], [120])] [] (⟨0, []⟩ : VM).rows = [row1] := next1
  rw [e] at h
  exact ⟨h.1, h.2⟩
theorem lines1 : (cdc.print 1 [row1]).length ≤ 500 := by
  have h1 := print_len fine1.1
  have h2 := fine1.2
  simp only at h1
  omega
section
variable {w w' : World}
theorem list_lv {vb bp C : Nat} {v : VM} {m : Mach} {H : Nat → Prop} (h : LV w vb bp v m H) (hi : Inv C m) (hC : C ≤ 100000000) :
    Calls Tryz.prog 31 #[.pointer (some ⟨bp, 0, none⟩)] w fun e w' => ∃ v', e = .returned v' ∧ OwnStrs w' w.heap.size v' (list m) ∧ Below w.heap.size w w' := by
  obtain ⟨rv, F, hs⟩ := h
  refine (List_calls hs.plate hi hC).mono ?_
  rintro e w' ⟨v', he, ho, _, hb⟩
  refine ⟨v', he, ?_, hb⟩
  have hl : (list m).length = m.now.length := by unfold list; rw [List.length_map]
  unfold OwnStrs
  rw [hl]
  exact ho
theorem strs_two (w : World) (a b : L) : Strs (w.alloc (.cells #[.string (mkB a), .string (mkB b)] 9 (0, 0))) (some ⟨w.heap.size, 0, none⟩) [a, b] := by
  have ho : OwnStrs (w.alloc (.cells #[.string (mkB a), .string (mkB b)] 9 (0, 0))) 0 (.slice (some ⟨w.heap.size, 0, none⟩) 2 2) [a, b] :=
    own_blk_mk (cs := [.string (mkB a), .string (mkB b)]) (alloc_new w _) rfl rfl (Nat.zero_le _) (Nat.le_refl _) zb25
  obtain ⟨A, c, e, _, h⟩ := textsV_row ho
  injection e with e1 _ _
  rw [e1]
  exact h
set_option maxRecDepth 100000 in
set_option maxHeartbeats 8000000 in
theorem awake_law (hG : Glob w) : Calls Tryz.prog 8 #[] w fun e w' => e = .returned (.bool true) ∧ Below w.heap.size w w' := by
  have g0 : Good 0 0 (fresh 1000) := Good.fresh 1000 zb25 zb25
  have hco := first_commit cdc name10 lines1
  have hgc := Good.commitR cdc ⟨0, []⟩ [([97], [120])] [] g0
  rw [hco] at hgc
  have HNW := Lib.hid (new_lp 1000 w zb25 zb25)
  have HG := Lib.hid hG
  have HOP := Lib.hid (fun (W : World) (bp : Nat) (H : Nat → Prop) (hb : Below w.heap.size w W) (h : LP W bp (fresh 1000) H) => by
    have := open_lp h g0 zb25 (hG.below hb) (by show (read (fresh 1000) manL).1.length ≤ 90000; decide)
    rw [first_open] at this
    exact this)
  have HCO := Lib.hid (fun (W : World) (vb bp : Nat) (H : Nat → Prop) (hb : Below w.heap.size w W) (hH : ∀ i, H i → w.heap.size ≤ i) (h : LV W vb bp ⟨0, []⟩ (fresh 1000) H) (A : Option Addr) (hp : Blobs W A [([97], [120])]) => by
    have := commit_lv (c1 := 1) (c2 := 0) h Fine.empty zb25 hp (strs_nil W) zb25 (fun b hb => by rw [List.mem_singleton.1 hb]; decide) g0 zb25 (fun W2 t => hG.below (hb.trans (t.below hb.size hH)))
    rw [hco] at this
    exact this)
  have HGT := Lib.hid (fun (W : World) (vb bp : Nat) (H : Nat → Prop) (h : LV W vb bp ⟨1, [row1]⟩ (m5 (cdc.print 1 [row1])) H) => by
    have := get_lv [97] h fine1.1 zb25
    rw [show getR ⟨1, [row1]⟩ (m5 (cdc.print 1 [row1])) [97] = ([120], 0) from first_get _ _] at this
    exact (show Calls Tryz.prog 29 #[.pointer (some ⟨vb, 0, none⟩), .string ⟨#[97]⟩] W fun e w' => e = .returned (.tuple #[.string ⟨#[120]⟩, .int .i64 0]) ∧ Below W.heap.size W w' from this))
  have HLI := Lib.hid (fun (W : World) (vb bp : Nat) (H : Nat → Prop) (h : LV W vb bp ⟨1, [row1]⟩ (m5 (cdc.print 1 [row1])) H) => by
    have := list_lv h hgc.inv zb25
    rw [first_list] at this
    exact this)
  have HGE := Lib.hid (fun (W : World) (vb bp : Nat) (H : Nat → Prop) (h : LV W vb bp ⟨1, [row1]⟩ (m5 (cdc.print 1 [row1])) H) => gen_lv h)
  clear hco hgc hG g0
  go_enter Tryz.func8, Tryz.ntmps8
  go_wp2_with (first
    | (go_at_call 19; refine HNW.out.mono ?_; rintro e w1 ⟨bp, rfl, hb1, hp1⟩; have HB1 := Lib.hid hb1; have HP1 := Lib.hid hp1; clear hb1 hp1)
    | (go_at_call 20; refine (HOP.out _ _ _ HB1.out HP1.out).mono ?_; rintro e w2 ⟨pv, H2, rfl, hf2, vb, rfl, hv2⟩; have HB2 := Lib.hid (HB1.out.trans (hf2.below (b := w.heap.size) HB1.out.size (fun i hi => hi))); have HL2 := Lib.hid (hf2.low (b := w.heap.size) HB1.out.size (fun i hi => hi)); have HV2 := Lib.hid hv2; clear hf2 hv2)
    | (go_at_call 21; have hal := (Below.refl w2.heap.size w2).alloc (Nat.le_refl _) (.cells #[.string (mkB [97]), .string (mkB [120])] 28 (0, 0)); refine (HCO.out _ vb bp H2 (HB2.out.trans (hal.mono HB2.out.size)) HL2.out (HV2.out.still hal) _ (blobs1 w2 ([97], [120]))).mono ?_; rintro e w3 ⟨rfl, H3, hf3, hv3⟩; have hb2a := HB2.out.trans (hal.mono HB2.out.size); have HB3 := Lib.hid (hb2a.trans (hf3.below (b := w.heap.size) hb2a.size HL2.out)); have HV3 := Lib.hid hv3; clear hf3 hv3 hal hb2a)
    | (go_at_call 29; refine (HGT.out _ vb bp H3 HV3.out).mono ?_; rintro e w4 ⟨rfl, hb4⟩; have HV4 := Lib.hid (HV3.out.still hb4); have HB4 := Lib.hid (HB3.out.trans (hb4.mono HB3.out.size)); clear hb4)
    | (go_at_call 30; refine (HGE.out _ vb bp H3 HV4.out).mono ?_; rintro e w5 ⟨rfl, rfl⟩)
    | (go_at_call 31; refine (HLI.out _ vb bp H3 HV4.out).mono ?_; rintro e w6 ⟨v6, rfl, ho6, hb6⟩; have HO6 := Lib.hid ho6; have HB6 := Lib.hid (HB4.out.trans (hb6.mono HB4.out.size)); obtain ⟨A6, c6, rfl⟩ := row_slice ho6; clear ho6 hb6)
    | (go_at_call 25; go_loud (have hst := textsV_row HO6.out; obtain ⟨A7, c7, e7, k7, hs7⟩ := hst; injection e7 with e71 e72 e73; subst e71; subst e73; have hal := (Below.refl w6.heap.size w6).alloc (Nat.le_refl _) (.cells #[.string (mkB g10), .string (mkB manL)] 9 (0, 0)); refine (sameV (c2 := 2) [g10, manL] zb25 (Kd.C_below hs7 hal) k7 (strs_two w6 g10 manL) zb25).mono ?_; rintro e w7 ⟨rfl, hb7⟩; have hb6a := HB6.out.trans (hal.mono HB6.out.size); have HB7 := Lib.hid (hb6a.trans (hb7.mono hb6a.size)); clear hb7 hal hb6a hs7))
    | go_in)
  go_ret
  exact ⟨rfl, HB7.out⟩
end
end Go.Proofs.YtfpbpakgajddnaaGreatDoor.Pl
/- Px125 -/
namespace Go.Proofs.YtfpbpakgajddnaaGreatDoor.P
open Go.Proofs.YtfpbpakgajddnaaGreatDoor.B
open Go.RowKit Go.Proofs.YtfpbpakgajddnaaGreatDoorW.PrintWords Go.Proofs.YtfpbpakgajddnaaGreatDoorW.PrintLast Go.Proofs.YtfpbpakgajddnaaGreatDoorW.PrintMore
attribute [local go_sem] run_store_float str_leq str_gtr str_geq max2_int min2_int max_two min_two max_three min_three max_four min_four
set_option linter.unusedVariables false
set_option linter.unusedSimpArgs false
def broadsheetlaw04_act.l0 : Nat → Int → Int → Int → Int → Int → Int → Int → List (S28) → Int → Int → ByteArray → Option (Int × (List (S28)) × List ByteArray × Int × Int × ByteArray)
  | 0, _, _, _, _, _, _, _, _, _, _, _ => none
  | k + 1, x4, x451000, x451001, x451002, x451003, x451004, x453000, x453001, x453003, x453004, x453005 => if x4 < (Int.tmod (wrap64 (x451001)) 4) then (if 0 ≤ (Int.tmod (wrap64 ((wrap64 (x451002)) + (wrap64 (x4 * (wrap64 (x451004)))))) 3) then (if (Int.tmod (wrap64 ((wrap64 (x451002)) + (wrap64 (x4 * (wrap64 (x451004)))))) 3) ≤ (wrap64 ((Int.tmod (wrap64 ((wrap64 (x451002)) + (wrap64 (x4 * (wrap64 (x451004)))))) 3) + 1)) then (if (wrap64 ((Int.tmod (wrap64 ((wrap64 (x451002)) + (wrap64 (x4 * (wrap64 (x451004)))))) 3) + 1)) ≤ 3 then (if 0 ≤ (Int.tmod (wrap64 (x451003)) 8) then (if (Int.tmod (wrap64 (x451003)) 8) ≤ 8 then (if x453001.length < 4398046511104 then (broadsheetlaw04_act.l0 k (wrap64 (x4 + 1)) x451000 x451001 x451002 x451003 x451004 x453000 (x453001 ++ [(⟨(⟨#[97, 98, 99]⟩ : ByteArray).extract ((Int.tmod (wrap64 ((wrap64 (x451002)) + (wrap64 (x4 * (wrap64 (x451004)))))) 3) : Int).toNat ((wrap64 ((Int.tmod (wrap64 ((wrap64 (x451002)) + (wrap64 (x4 * (wrap64 (x451004)))))) 3) + 1)) : Int).toNat, (⟨#[115, 116, 117, 118, 119, 120, 121, 122]⟩ : ByteArray).extract ((Int.tmod (wrap64 (x451003)) 8) : Int).toNat (⟨#[115, 116, 117, 118, 119, 120, 121, 122]⟩ : ByteArray).size⟩ : S28)]) x453003 x453004 x453005) else (none)) else (none)) else (none)) else (none)) else (none)) else (none)) else (if (Int.tmod x451002 4) = 0 then (if 0 ≤ (Int.tmod x451004 3) then (if (Int.tmod x451004 3) ≤ (((Int.tmod x451004 3) + 1) % 256) then (if (((Int.tmod x451004 3) + 1) % 256) ≤ 3 then (some (x453000, x453001, (([(⟨#[97, 98, 99]⟩ : ByteArray).extract ((Int.tmod x451004 3) : Int).toNat ((((Int.tmod x451004 3) + 1) % 256) : Int).toNat] : List ByteArray)), x453003, x453004, x453005)) else (none)) else (none)) else (none)) else (some (x453000, x453001, ([] : List ByteArray), x453003, x453004, x453005)))
def broadsheetlaw04_act.f (k : Nat) (a0_0 : Int) (a0_1 : Int) (a0_2 : Int) (a0_3 : Int) (a0_4 : Int) : Option (Int × (List (S28)) × List ByteArray × Int × Int × ByteArray) := if 0 ≤ (Int.tmod a0_1 3) then (if (Int.tmod a0_1 3) ≤ (((Int.tmod a0_1 3) + 1) % 256) then (if (((Int.tmod a0_1 3) + 1) % 256) ≤ 3 then (broadsheetlaw04_act.l0 k 0 a0_0 a0_1 a0_2 a0_3 a0_4 (wrap64 (a0_0)) ([] : List (S28)) (wrap64 ((Int.tmod (wrap64 (a0_3)) 24) - 1)) (wrap64 ((Int.tmod (wrap64 (a0_4)) 30) - 1)) ((⟨#[97, 98, 99]⟩ : ByteArray).extract ((Int.tmod a0_1 3) : Int).toNat ((((Int.tmod a0_1 3) + 1) % 256) : Int).toNat)) else (none)) else (none)) else (none)
set_option maxRecDepth 100000 in
theorem act_cut (j : Int) (h0 : 0 ≤ j) (h1 : j ≤ (j + 1) % 256) (h2 : (j + 1) % 256 ≤ 3) (W : World) : (Instr.slice 9 (.string ⟨#[97, 98, 99]⟩) (some (.int .u8 j)) (some (.int .u8 (IntKind.u8.wrap (j + 1)))) none).run Tryz.prog W = .ok (.string ((⟨#[97, 98, 99]⟩ : ByteArray).extract j.toNat ((j + 1) % 256).toNat)) W := by
  have : j = 0 ∨ j = 1 ∨ j = 2 := by omega
  rcases this with rfl | rfl | rfl <;> rfl
def broadsheetlaw04_act.T1 : Bool × List (List Nat × List Nat) := (true, [([], []), ([0], [0]), ([1], [1]), ([], []), ([3], [3]), ([4], [4]), ([5], [5]), ([6], [6]), ([], []), ([8], [8]), ([9], [9]), ([10], [10]), ([11], [11]), ([], []), ([13], [13]), ([14], [14]), ([], []), ([16], [16]), ([17], [17]), ([18], [18]), ([15, 19], [15, 19]), ([2, 7, 12, 20], [2, 7, 12, 20]), ([], []), ([22, 21, 0, 1, 2, 3, 4, 5, 6, 7, 8, 9, 10, 11, 12, 13, 14, 15, 16, 17, 18, 19, 20, 21, 22], [21, 22])])
def broadsheetlaw04_act.B1 : List Nat := [0, 1, 3, 0, 8, 24, 56, 120, 0, 256, 768, 1792, 3840, 0, 8192, 24576, 0, 65536, 196608, 458752, 1040384, 2097151, 0, 8388607]
theorem broadsheetlaw04_act.tab1 : rtab .any (opsOf Tryz.f18 1) = broadsheetlaw04_act.T1 := by kernel_rfl
theorem broadsheetlaw04_act.bits1 : waitsOk broadsheetlaw04_act.T1.2 broadsheetlaw04_act.B1 = true := by kernel_rfl
def broadsheetlaw04_act.T6 : Bool × List (List Nat × List Nat) := (true, [([], []), ([0], [0]), ([], []), ([], []), ([3], [3]), ([2, 4], [2, 4]), ([], []), ([6], [6]), ([7], [7]), ([8], [8]), ([9], [9]), ([5, 10], [5, 10]), ([11], [11]), ([1, 12], [1, 12]), ([0, 1, 2, 3, 4, 5, 6, 7, 8, 9, 10, 11, 12, 13], []), ([14, 13, 13, 0, 1, 2, 3, 4, 5, 6, 7, 8, 9, 10, 11, 12, 13], [13, 14])])
def broadsheetlaw04_act.B6 : List Nat := [0, 1, 0, 0, 8, 28, 0, 64, 192, 448, 960, 2044, 4092, 8191, 16383, 32767]
theorem broadsheetlaw04_act.tab6 : rtab .any (opsOf Tryz.f18 6) = broadsheetlaw04_act.T6 := by kernel_rfl
theorem broadsheetlaw04_act.bits6 : waitsOk broadsheetlaw04_act.T6.2 broadsheetlaw04_act.B6 = true := by kernel_rfl
set_option maxHeartbeats 8000000 in
set_option maxRecDepth 100000 in
theorem broadsheetlaw04_act.calls (k : Nat) (a0_0 : Int) (a0_1 : Int) (a0_2 : Int) (a0_3 : Int) (a0_4 : Int) (r1 : Int) (r2 : List (S28)) (r3 : List ByteArray) (r4 : Int) (r5 : Int) (r6 : ByteArray) (w : World) (h : broadsheetlaw04_act.f k a0_0 a0_1 a0_2 a0_3 a0_4 = some (r1, r2, r3, r4, r5, r6)) :
  Calls Tryz.prog 18 #[.agg #[.int .u8 a0_0, .int .u8 a0_1, .int .u8 a0_2, .int .u8 a0_3, .int .u8 a0_4]] w fun e w' => ∃ v1_ v2_ : Value, e = .returned (.agg #[.int .i64 r1, v1_, v2_, .int .i64 r4, .int .i64 r5, .string r6]) ∧ Kd.R k28 28 w' w.heap.size (fun _ => True) v1_ r2 ∧ Kd.R Kd.string 9 w' w.heap.size (fun _ => True) v2_ r3 ∧ Below w.heap.size w w' := by
 have hu48 := Tryz.underlying48
 have hu43 := Tryz.underlying43
 have hu28 := Tryz.underlying28
 have HB := Aside0.mk (Below.refl w.heap.size w)
 have H : (if 0 ≤ (Int.tmod a0_1 3) then (if (Int.tmod a0_1 3) ≤ (((Int.tmod a0_1 3) + 1) % 256) then (if (((Int.tmod a0_1 3) + 1) % 256) ≤ 3 then (broadsheetlaw04_act.l0 k 0 a0_0 a0_1 a0_2 a0_3 a0_4 (wrap64 (a0_0)) ([] : List (S28)) (wrap64 ((Int.tmod (wrap64 (a0_3)) 24) - 1)) (wrap64 ((Int.tmod (wrap64 (a0_4)) 30) - 1)) ((⟨#[97, 98, 99]⟩ : ByteArray).extract ((Int.tmod a0_1 3) : Int).toNat ((((Int.tmod a0_1 3) + 1) % 256) : Int).toNat)) else (none)) else (none)) else (none)) = some (r1, r2, r3, r4, r5, r6) := h
 clear h
 obtain ⟨ji2, hji2⟩ : ∃ j_ : Int, (Int.tmod a0_1 3) = j_ := ⟨_, rfl⟩
 replace H : (if 0 ≤ (ji2) then (if (ji2) ≤ (((ji2) + 1) % 256) then (if (((ji2) + 1) % 256) ≤ 3 then (broadsheetlaw04_act.l0 k 0 a0_0 a0_1 a0_2 a0_3 a0_4 (wrap64 (a0_0)) ([] : List (S28)) (wrap64 ((Int.tmod (wrap64 (a0_3)) 24) - 1)) (wrap64 ((Int.tmod (wrap64 (a0_4)) 30) - 1)) ((⟨#[97, 98, 99]⟩ : ByteArray).extract ((ji2) : Int).toNat ((((ji2) + 1) % 256) : Int).toNat)) else (none)) else (none)) else (none)) = some (r1, r2, r3, r4, r5, r6) := by first | (rw [hji2] at H; exact H) | (simp only [hji2] at H ⊢; exact H)
 by_cases c3 : 0 ≤ (ji2)
 ·rw [if_pos c3] at H
  have c3b0 := eq_true c3
  have c3b1 : decide (0 ≤ (ji2)) = true := decide_eq_true c3
  clear c3
  by_cases c4 : (ji2) ≤ (((ji2) + 1) % 256)
  ·rw [if_pos c4] at H
   have c4b0 := eq_true c4
   have c4b1 : decide ((ji2) ≤ (((ji2) + 1) % 256)) = true := decide_eq_true c4
   by_cases c5 : (((ji2) + 1) % 256) ≤ 3
   ·rw [if_pos c5] at H
    have c5b0 := eq_true c5
    have c5b1 : decide ((((ji2) + 1) % 256) ≤ 3) = true := decide_eq_true c5
    have H' := Aside0.mk H
    clear H
    go_enter Tryz.func18, Tryz.ntmps18
    try go_wp2_with (first | ((with_reducible refine gate_dst (N := 1) rfl ?_); refine box_event ?hg (N := 1) ?hd (cs := #[.int .u8 a0_0, .int .u8 a0_1, .int .u8 a0_2, .int .u8 a0_3, .int .u8 a0_4]) (t := 48) ?hr ?_; (case hd => rfl); (case hg => rfl); (case hr => first | (go_simp; done) | (go_simp; rfl)); intro gb450 hg w6 hbox hb; have n0_ := Aside0.mk (below_step zb1 hb); have n1_ := Aside0.mk (hbox); have n2_ := Aside0.mk ((by rw [hg]; exact (below_size zb1) : w.heap.size ≤ gb450)); have n3_ := Aside0.mk ((by rw [hg]; exact (below_size zb1) : w.heap.size ≤ gb450)); clear HB; have HB := n0_; have BK450 := n1_; have GW450 := n2_; have GE450 := n3_; clear n0_ n1_ n2_ n3_; clear hb hbox hg) | ((with_reducible refine gate_dst (N := 2) rfl ?_); refine box_event ?hg (N := 2) ?hd (cs := #[.int .i64 0, .slice none 0 0, .slice none 0 0, .int .i64 0, .int .i64 0, .string (⟨#[]⟩ : ByteArray)]) (t := 43) ?hr ?_; (case hd => rfl); (case hg => rfl); (case hr => first | (go_simp; done) | (go_simp; rfl)); intro gb451 hg w7 hbox hb; have n0_ := Aside0.mk (blk_below (g := gb450) (o := .cells #[.int .u8 a0_0, .int .u8 a0_1, .int .u8 a0_2, .int .u8 a0_3, .int .u8 a0_4] 48 (0, 0)) zb27 hb); have n1_ := Aside0.mk (below_step zb37 hb); have n2_ := Aside0.mk (hbox); have n3_ := Aside0.mk ((by rw [hg]; exact (below_size zb37) : w.heap.size ≤ gb451)); have n4_ := Aside0.mk ((by rw [hg]; exact (below_size zb37) : w.heap.size ≤ gb451)); have n5_ := Aside0.mk ((by rw [hg]; exact Nat.ne_of_lt (blk_lt (g := gb450) (o := .cells #[.int .u8 a0_0, .int .u8 a0_1, .int .u8 a0_2, .int .u8 a0_3, .int .u8 a0_4] 48 (0, 0)) zb27) : gb450 ≠ gb451)); have n6_ := Aside0.mk ((by rw [hg]; exact Nat.ne_of_gt (blk_lt (g := gb450) (o := .cells #[.int .u8 a0_0, .int .u8 a0_1, .int .u8 a0_2, .int .u8 a0_3, .int .u8 a0_4] 48 (0, 0)) zb27) : gb451 ≠ gb450)); clear BK450; clear HB; have BK450 := n0_; have HB := n1_; have BK451 := n2_; have GW451 := n3_; have GE451 := n4_; have NB450_451 := n5_; have NB451_450 := n6_; clear n0_ n1_ n2_ n3_ n4_ n5_ n6_; clear hb hbox hg))
    have n0_ := Aside0.mk (blk_drew BK450.out)
    have n1_ := Aside0.mk (blk_drew BK451.out)
    have n2_ := Aside0.mk (below_drew1 HB.out)
    clear BK450
    clear BK451
    clear HB
    have BK450 := n0_
    have BK451 := n1_
    have HB := n2_
    clear n0_ n1_ n2_
    refine start_ (n := 24) (S := fun w' => w'.cell? ⟨gb450, 0, none⟩ = some (.int .u8 a0_0) ∧ w'.cell? ⟨gb450, 1, none⟩ = some (.int .u8 a0_1) ∧ w'.cell? ⟨gb450, 2, none⟩ = some (.int .u8 a0_2) ∧ w'.cell? ⟨gb450, 3, none⟩ = some (.int .u8 a0_3) ∧ w'.cell? ⟨gb450, 4, none⟩ = some (.int .u8 a0_4)) (ds := []) #[false, false, false, false, false, false, false, false, false, false, false, false, false, false, false, false, false, false, false, false, false, false, false, false] zb5 rfl rfl ⟨(blk_cell BK450.out 0).trans rfl, (blk_cell BK450.out 1).trans rfl, (blk_cell BK450.out 2).trans rfl, (blk_cell BK450.out 3).trans rfl, (blk_cell BK450.out 4).trans rfl⟩ (fun hHeld => ?_); refine with_tabW broadsheetlaw04_act.tab1 broadsheetlaw04_act.bits1 (fun HT_ HW_ => ?_)
    generalize w7.drew = w8 at BK450 BK451 HB hHeld ⊢
    refine pure_ (i := 0) (N := some 6) (v := ?_) (a' := ?_) #[true, false, false, false, false, false, false, false, false, false, false, false, false, false, false, false, false, false, false, false, false, false, false, false] rfl rfl (any_of HT_.out zb5) (fun _ _ _ h => h) (Or.inl ⟨by rfl, ?_⟩) ?_ ?_
    rotate_left
    ·intro w'
     go_simp
     first | with_reducible rfl | (rw [act_cut] <;> first | with_reducible rfl | rfl | exact of_decide_eq_true zb29 | exact of_eq_true zb29 | assumption) | (rw [if_neg zb0])
    rotate_left
    ·simp only [Act.put, List.setIfInBounds_toArray, List.set_cons_zero, List.set_cons_succ, i64_w, i32_w]
     rfl
    refine pure_ (i := 3) (N := some 9) (v := ?_) (a' := ?_) #[true, false, false, true, false, false, false, false, false, false, false, false, false, false, false, false, false, false, false, false, false, false, false, false] rfl rfl (any_of HT_.out zb5) (fun _ _ _ h => h) (Or.inl ⟨by rfl, ?_⟩) ?_ ?_
    rotate_left
    ·intro w'
     go_simp
     first | with_reducible rfl | (rw [act_cut] <;> first | with_reducible rfl | rfl | exact of_decide_eq_true zb29 | exact of_eq_true zb29 | assumption) | (rw [if_neg zb0])
    rotate_left
    ·simp only [Act.put, List.setIfInBounds_toArray, List.set_cons_zero, List.set_cons_succ, i64_w, i32_w]
     rfl
    refine pure_ (i := 8) (N := some 14) (v := ?_) (a' := ?_) #[true, false, false, true, false, false, false, false, true, false, false, false, false, false, false, false, false, false, false, false, false, false, false, false] rfl rfl (any_of HT_.out zb5) (fun _ _ _ h => h) (Or.inl ⟨by rfl, ?_⟩) ?_ ?_
    rotate_left
    ·intro w'
     go_simp
     first | with_reducible rfl | (rw [act_cut] <;> first | with_reducible rfl | rfl | exact of_decide_eq_true zb29 | exact of_eq_true zb29 | assumption) | (rw [if_neg zb0])
    rotate_left
    ·simp only [Act.put, List.setIfInBounds_toArray, List.set_cons_zero, List.set_cons_succ, i64_w, i32_w]
     rfl
    refine pure_ (i := 13) (N := some 19) (v := ?_) (a' := ?_) #[true, false, false, true, false, false, false, false, true, false, false, false, false, true, false, false, false, false, false, false, false, false, false, false] rfl rfl (any_of HT_.out zb5) (fun _ _ _ h => h) (Or.inl ⟨by rfl, ?_⟩) ?_ ?_
    rotate_left
    ·intro w'
     go_simp
     first | with_reducible rfl | (rw [act_cut] <;> first | with_reducible rfl | rfl | exact of_decide_eq_true zb29 | exact of_eq_true zb29 | assumption) | (rw [if_neg zb0])
    rotate_left
    ·simp only [Act.put, List.setIfInBounds_toArray, List.set_cons_zero, List.set_cons_succ, i64_w, i32_w]
     rfl
    refine pure_ (i := 16) (N := some 22) (v := ?_) (a' := ?_) #[true, false, false, true, false, false, false, false, true, false, false, false, false, true, false, false, true, false, false, false, false, false, false, false] rfl rfl (any_of HT_.out zb5) (fun _ _ _ h => h) (Or.inl ⟨by rfl, ?_⟩) ?_ ?_
    rotate_left
    ·intro w'
     go_simp
     first | with_reducible rfl | (rw [act_cut] <;> first | with_reducible rfl | rfl | exact of_decide_eq_true zb29 | exact of_eq_true zb29 | assumption) | (rw [if_neg zb0])
    rotate_left
    ·simp only [Act.put, List.setIfInBounds_toArray, List.set_cons_zero, List.set_cons_succ, i64_w, i32_w]
     rfl
    refine take_ (i := 1) (N := some 7) (v := ?_) (a' := ?_) #[true, true, false, true, false, false, false, false, true, false, false, false, false, true, false, false, true, false, false, false, false, false, false, false] rfl rfl (take_ofW HT_.out HW_.out zb5) (fun _ _ _ h => h) (Or.inl ⟨by rfl, ?_⟩) hHeld ?_ ?_
    rotate_left
    ·rintro w' ⟨s0, s1, s2, s3, s4⟩
     go_simp
     first | with_reducible rfl | (rw [act_cut] <;> first | with_reducible rfl | rfl | exact of_decide_eq_true zb29 | exact of_eq_true zb29 | assumption) | (rw [if_neg zb0])
    rotate_left
    ·simp only [Act.put, List.setIfInBounds_toArray, List.set_cons_zero, List.set_cons_succ, i64_w, i32_w]
     rfl
    refine pure_ (i := 2) (N := some 8) (v := ?_) (a' := ?_) #[true, true, true, true, false, false, false, false, true, false, false, false, false, true, false, false, true, false, false, false, false, false, false, false] rfl rfl (any_of HT_.out zb5) (fun _ _ _ h => h) (Or.inl ⟨by rfl, ?_⟩) ?_ ?_
    rotate_left
    ·intro w'
     go_simp
     first | with_reducible rfl | (rw [act_cut] <;> first | with_reducible rfl | rfl | exact of_decide_eq_true zb29 | exact of_eq_true zb29 | assumption) | (rw [if_neg zb0])
    rotate_left
    ·simp only [Act.put, List.setIfInBounds_toArray, List.set_cons_zero, List.set_cons_succ, i64_w, i32_w]
     rfl
    refine take_ (i := 4) (N := some 10) (v := ?_) (a' := ?_) #[true, true, true, true, true, false, false, false, true, false, false, false, false, true, false, false, true, false, false, false, false, false, false, false] rfl rfl (take_ofW HT_.out HW_.out zb5) (fun _ _ _ h => h) (Or.inl ⟨by rfl, ?_⟩) hHeld ?_ ?_
    rotate_left
    ·rintro w' ⟨s0, s1, s2, s3, s4⟩
     go_simp
     first | with_reducible rfl | (rw [act_cut] <;> first | with_reducible rfl | rfl | exact of_decide_eq_true zb29 | exact of_eq_true zb29 | assumption) | (rw [if_neg zb0])
    rotate_left
    ·simp only [Act.put, List.setIfInBounds_toArray, List.set_cons_zero, List.set_cons_succ, i64_w, i32_w]
     rfl
    refine pure_ (i := 5) (N := some 11) (v := ?_) (a' := ?_) #[true, true, true, true, true, true, false, false, true, false, false, false, false, true, false, false, true, false, false, false, false, false, false, false] rfl rfl (any_of HT_.out zb5) (fun _ _ _ h => h) (Or.inl ⟨by rfl, ?_⟩) ?_ ?_
    rotate_left
    ·intro w'
     go_simp
     first | with_reducible rfl | (rw [act_cut] <;> first | with_reducible rfl | rfl | exact of_decide_eq_true zb29 | exact of_eq_true zb29 | assumption) | (rw [if_neg zb0])
    rotate_left
    ·simp only [Act.put, List.setIfInBounds_toArray, List.set_cons_zero, List.set_cons_succ, i64_w, i32_w]
     rfl
    refine pure_ (i := 6) (N := some 12) (v := ?_) (a' := ?_) #[true, true, true, true, true, true, true, false, true, false, false, false, false, true, false, false, true, false, false, false, false, false, false, false] rfl rfl (any_of HT_.out zb5) (fun _ _ _ h => h) (Or.inl ⟨by rfl, ?_⟩) ?_ ?_
    rotate_left
    ·intro w'
     go_simp
     first | with_reducible rfl | (rw [act_cut] <;> first | with_reducible rfl | rfl | exact of_decide_eq_true zb29 | exact of_eq_true zb29 | assumption) | (rw [if_neg zb0])
    rotate_left
    ·simp only [Act.put, List.setIfInBounds_toArray, List.set_cons_zero, List.set_cons_succ, i64_w, i32_w]
     rfl
    refine pure_ (i := 7) (N := some 13) (v := ?_) (a' := ?_) #[true, true, true, true, true, true, true, true, true, false, false, false, false, true, false, false, true, false, false, false, false, false, false, false] rfl rfl (any_of HT_.out zb5) (fun _ _ _ h => h) (Or.inl ⟨by rfl, ?_⟩) ?_ ?_
    rotate_left
    ·intro w'
     go_simp
     first | with_reducible rfl | (rw [act_cut] <;> first | with_reducible rfl | rfl | exact of_decide_eq_true zb29 | exact of_eq_true zb29 | assumption) | (rw [if_neg zb0])
    rotate_left
    ·simp only [Act.put, List.setIfInBounds_toArray, List.set_cons_zero, List.set_cons_succ, i64_w, i32_w]
     rfl
    refine take_ (i := 9) (N := some 15) (v := ?_) (a' := ?_) #[true, true, true, true, true, true, true, true, true, true, false, false, false, true, false, false, true, false, false, false, false, false, false, false] rfl rfl (take_ofW HT_.out HW_.out zb5) (fun _ _ _ h => h) (Or.inl ⟨by rfl, ?_⟩) hHeld ?_ ?_
    rotate_left
    ·rintro w' ⟨s0, s1, s2, s3, s4⟩
     go_simp
     first | with_reducible rfl | (rw [act_cut] <;> first | with_reducible rfl | rfl | exact of_decide_eq_true zb29 | exact of_eq_true zb29 | assumption) | (rw [if_neg zb0])
    rotate_left
    ·simp only [Act.put, List.setIfInBounds_toArray, List.set_cons_zero, List.set_cons_succ, i64_w, i32_w]
     rfl
    refine pure_ (i := 10) (N := some 16) (v := ?_) (a' := ?_) #[true, true, true, true, true, true, true, true, true, true, true, false, false, true, false, false, true, false, false, false, false, false, false, false] rfl rfl (any_of HT_.out zb5) (fun _ _ _ h => h) (Or.inl ⟨by rfl, ?_⟩) ?_ ?_
    rotate_left
    ·intro w'
     go_simp
     first | with_reducible rfl | (rw [act_cut] <;> first | with_reducible rfl | rfl | exact of_decide_eq_true zb29 | exact of_eq_true zb29 | assumption) | (rw [if_neg zb0])
    rotate_left
    ·simp only [Act.put, List.setIfInBounds_toArray, List.set_cons_zero, List.set_cons_succ, i64_w, i32_w]
     rfl
    refine pure_ (i := 11) (N := some 17) (v := ?_) (a' := ?_) #[true, true, true, true, true, true, true, true, true, true, true, true, false, true, false, false, true, false, false, false, false, false, false, false] rfl rfl (any_of HT_.out zb5) (fun _ _ _ h => h) (Or.inl ⟨by rfl, ?_⟩) ?_ ?_
    rotate_left
    ·intro w'
     go_simp
     first | with_reducible rfl | (rw [act_cut] <;> first | with_reducible rfl | rfl | exact of_decide_eq_true zb29 | exact of_eq_true zb29 | assumption) | (rw [if_neg zb0])
    rotate_left
    ·simp only [Act.put, List.setIfInBounds_toArray, List.set_cons_zero, List.set_cons_succ, i64_w, i32_w]
     rfl
    refine pure_ (i := 12) (N := some 18) (v := ?_) (a' := ?_) #[true, true, true, true, true, true, true, true, true, true, true, true, true, true, false, false, true, false, false, false, false, false, false, false] rfl rfl (any_of HT_.out zb5) (fun _ _ _ h => h) (Or.inl ⟨by rfl, ?_⟩) ?_ ?_
    rotate_left
    ·intro w'
     go_simp
     first | with_reducible rfl | (rw [act_cut] <;> first | with_reducible rfl | rfl | exact of_decide_eq_true zb29 | exact of_eq_true zb29 | assumption) | (rw [if_neg zb0])
    rotate_left
    ·simp only [Act.put, List.setIfInBounds_toArray, List.set_cons_zero, List.set_cons_succ, i64_w, i32_w]
     rfl
    refine take_ (i := 14) (N := some 20) (v := ?_) (a' := ?_) #[true, true, true, true, true, true, true, true, true, true, true, true, true, true, true, false, true, false, false, false, false, false, false, false] rfl rfl (take_ofW HT_.out HW_.out zb5) (fun _ _ _ h => h) (Or.inl ⟨by rfl, ?_⟩) hHeld ?_ ?_
    rotate_left
    ·rintro w' ⟨s0, s1, s2, s3, s4⟩
     go_simp
     first | with_reducible rfl | (rw [act_cut] <;> first | with_reducible rfl | rfl | exact of_decide_eq_true zb29 | exact of_eq_true zb29 | assumption) | (rw [if_neg zb0])
    rotate_left
    ·simp only [Act.put, List.setIfInBounds_toArray, List.set_cons_zero, List.set_cons_succ, i64_w, i32_w]
     rfl
    refine pure_ (i := 15) (N := some 21) (v := ?_) (a' := ?_) #[true, true, true, true, true, true, true, true, true, true, true, true, true, true, true, true, true, false, false, false, false, false, false, false] rfl rfl (any_of HT_.out zb5) (fun _ _ _ h => h) (Or.inl ⟨by rfl, ?_⟩) ?_ ?_
    rotate_left
    ·intro w'
     go_simp
     first | with_reducible rfl | (rw [act_cut] <;> first | with_reducible rfl | rfl | exact of_decide_eq_true zb29 | exact of_eq_true zb29 | assumption) | (rw [if_neg zb0])
    rotate_left
    ·simp only [Act.put, List.setIfInBounds_toArray, List.set_cons_zero, List.set_cons_succ, i64_w, i32_w]
     rfl
    refine take_ (i := 17) (N := some 23) (v := ?_) (a' := ?_) #[true, true, true, true, true, true, true, true, true, true, true, true, true, true, true, true, true, true, false, false, false, false, false, false] rfl rfl (take_ofW HT_.out HW_.out zb5) (fun _ _ _ h => h) (Or.inl ⟨by rfl, ?_⟩) hHeld ?_ ?_
    rotate_left
    ·rintro w' ⟨s0, s1, s2, s3, s4⟩
     go_simp
     first | with_reducible rfl | (rw [act_cut] <;> first | with_reducible rfl | rfl | exact of_decide_eq_true zb29 | exact of_eq_true zb29 | assumption) | (rw [if_neg zb0])
    rotate_left
    ·simp only [Act.put, List.setIfInBounds_toArray, List.set_cons_zero, List.set_cons_succ, i64_w, i32_w]
     rfl
    refine pure_ (i := 18) (N := some 24) (v := ?_) (a' := ?_) #[true, true, true, true, true, true, true, true, true, true, true, true, true, true, true, true, true, true, true, false, false, false, false, false] rfl rfl (any_of HT_.out zb5) (fun _ _ _ h => h) (Or.inl ⟨by rfl, ?_⟩) ?_ ?_
    rotate_left
    ·intro w'
     go_simp
     first | with_reducible rfl | (rw [act_cut] <;> first | with_reducible rfl | rfl | exact of_decide_eq_true zb29 | exact of_eq_true zb29 | assumption) | (rw [if_neg zb0])
    rotate_left
    ·simp only [Act.put, List.setIfInBounds_toArray, List.set_cons_zero, List.set_cons_succ, i64_w, i32_w]
     rfl
    refine pure_ (i := 19) (N := some 25) (v := ?_) (a' := ?_) #[true, true, true, true, true, true, true, true, true, true, true, true, true, true, true, true, true, true, true, true, false, false, false, false] rfl rfl (any_of HT_.out zb5) (fun _ _ _ h => h) (Or.inl ⟨by rfl, ?_⟩) ?_ ?_
    rotate_left
    ·intro w'
     go_simp
     first | with_reducible rfl | (rw [act_cut] <;> first | with_reducible rfl | rfl | exact of_decide_eq_true zb29 | exact of_eq_true zb29 | assumption) | (rw [if_neg zb0])
    rotate_left
    ·simp only [Act.put, List.setIfInBounds_toArray, List.set_cons_zero, List.set_cons_succ, i64_w, i32_w]
     rfl
    refine pure_ (i := 20) (N := some 26) (v := ?_) (a' := ?_) #[true, true, true, true, true, true, true, true, true, true, true, true, true, true, true, true, true, true, true, true, true, false, false, false] rfl rfl (any_of HT_.out zb5) (fun _ _ _ h => h) (Or.inl ⟨by rfl, ?_⟩) ?_ ?_
    rotate_left
    ·intro w'
     go_simp
     first | with_reducible rfl | (rw [act_cut] <;> first | with_reducible rfl | rfl | exact of_decide_eq_true zb29 | exact of_eq_true zb29 | assumption) | (rw [if_neg zb0])
    rotate_left
    ·simp only [Act.put, List.setIfInBounds_toArray, List.set_cons_zero, List.set_cons_succ, i64_w, i32_w]
     rfl
    refine pure_ (i := 21) (N := some 27) (v := ?_) (a' := ?_) #[true, true, true, true, true, true, true, true, true, true, true, true, true, true, true, true, true, true, true, true, true, true, false, false] rfl rfl (any_of HT_.out zb5) (fun _ _ _ h => h) (Or.inl ⟨by rfl, ?_⟩) ?_ ?_
    rotate_left
    ·intro w'
     go_simp
     first | with_reducible rfl | (rw [act_cut] <;> first | with_reducible rfl | rfl | exact of_decide_eq_true zb29 | exact of_eq_true zb29 | assumption) | (rw [if_neg zb0])
    rotate_left
    ·simp only [Act.put, List.setIfInBounds_toArray, List.set_cons_zero, List.set_cons_succ, i64_w, i32_w]
     rfl
    refine one_ (i := 22) (N := some 3) #[true, true, true, true, true, true, true, true, true, true, true, true, true, true, true, true, true, true, true, true, true, true, true, false] rfl rfl (one_of HT_.out zb5) zb25 (fun K hK => ?_)
    refine box_step ?hg (N := 3) ?hd (cs := #[.int .i64 0, .slice none 0 0, .slice none 0 0, .int .i64 0, .int .i64 0, .string (⟨#[]⟩ : ByteArray)]) (t := 43) ?hr ?_; (case hd => rfl); (case hg => rfl); (case hr => first | (go_simp; done) | (go_simp; rfl))
    intro gb452 hg w9 hbox hb
    have n0_ := Aside0.mk (blk_below (g := gb450) (o := .cells #[.int .u8 a0_0, .int .u8 a0_1, .int .u8 a0_2, .int .u8 a0_3, .int .u8 a0_4] 48 (0, 0)) zb27 hb)
    have n1_ := Aside0.mk (blk_below (g := gb451) (o := .cells #[.int .i64 0, .slice none 0 0, .slice none 0 0, .int .i64 0, .int .i64 0, .string (⟨#[]⟩ : ByteArray)] 43 (0, 0)) zb33 hb)
    have n2_ := Aside0.mk (below_step zb36 hb)
    have n3_ := Aside0.mk (hbox)
    have n4_ := Aside0.mk ((by rw [hg]; exact (below_size zb36) : w.heap.size ≤ gb452))
    have n5_ := Aside0.mk ((by rw [hg]; exact (below_size zb36) : w.heap.size ≤ gb452))
    have n6_ := Aside0.mk ((by rw [hg]; exact Nat.ne_of_lt (blk_lt (g := gb450) (o := .cells #[.int .u8 a0_0, .int .u8 a0_1, .int .u8 a0_2, .int .u8 a0_3, .int .u8 a0_4] 48 (0, 0)) zb27) : gb450 ≠ gb452))
    have n7_ := Aside0.mk ((by rw [hg]; exact Nat.ne_of_gt (blk_lt (g := gb450) (o := .cells #[.int .u8 a0_0, .int .u8 a0_1, .int .u8 a0_2, .int .u8 a0_3, .int .u8 a0_4] 48 (0, 0)) zb27) : gb452 ≠ gb450))
    have n8_ := Aside0.mk ((by rw [hg]; exact Nat.ne_of_lt (blk_lt (g := gb451) (o := .cells #[.int .i64 0, .slice none 0 0, .slice none 0 0, .int .i64 0, .int .i64 0, .string (⟨#[]⟩ : ByteArray)] 43 (0, 0)) zb33) : gb451 ≠ gb452))
    have n9_ := Aside0.mk ((by rw [hg]; exact Nat.ne_of_gt (blk_lt (g := gb451) (o := .cells #[.int .i64 0, .slice none 0 0, .slice none 0 0, .int .i64 0, .int .i64 0, .string (⟨#[]⟩ : ByteArray)] 43 (0, 0)) zb33) : gb452 ≠ gb451))
    clear BK450
    clear BK451
    clear HB
    have BK450 := n0_
    have BK451 := n1_
    have HB := n2_
    have BK452 := n3_
    have GW452 := n4_
    have GE452 := n5_
    have NB450_452 := n6_
    have NB452_450 := n7_
    have NB451_452 := n8_
    have NB452_451 := n9_
    clear n0_ n1_ n2_ n3_ n4_ n5_ n6_ n7_ n8_ n9_
    clear hb hbox hg
    refine hK.out _ _ ⟨(blk_cell BK450.out 0).trans rfl, (blk_cell BK450.out 1).trans rfl, (blk_cell BK450.out 2).trans rfl, (blk_cell BK450.out 3).trans rfl, (blk_cell BK450.out 4).trans rfl⟩ (fun hHeld => ?_)
    clear hK K
    refine norm_ (a' := ?_) ?_ ?_
    rotate_left
    ·show Act.put _ (some 3) _ = _
     simp only [Act.put, List.setIfInBounds_toArray, List.set_cons_zero, List.set_cons_succ, i64_w, i32_w]
     rfl
    refine one_ (i := 23) (N := none) #[true, true, true, true, true, true, true, true, true, true, true, true, true, true, true, true, true, true, true, true, true, true, true, true] rfl rfl (one_of HT_.out zb5) zb25 (fun K hK => ?_)
    have hs10 : w9.cell? ⟨gb452, 0, none⟩ = some (.int .i64 0) := (blk_cell BK452.out 0).trans rfl
    have hfs10 := blk_frozen BK452.out 0
    have hns10_0 := NB450_452.out
    have hns10_1 := NB451_452.out
    have hms10_0 := NB452_450.out
    have hms10_1 := NB452_451.out
    have hs11 : w9.cell? ⟨gb452, 1, none⟩ = some (.slice none 0 0) := (blk_cell BK452.out 1).trans rfl
    have hfs11 := blk_frozen BK452.out 1
    have hns11_0 := NB450_452.out
    have hns11_1 := NB451_452.out
    have hms11_0 := NB452_450.out
    have hms11_1 := NB452_451.out
    have hs12 : w9.cell? ⟨gb452, 2, none⟩ = some (.slice none 0 0) := (blk_cell BK452.out 2).trans rfl
    have hfs12 := blk_frozen BK452.out 2
    have hns12_0 := NB450_452.out
    have hns12_1 := NB451_452.out
    have hms12_0 := NB452_450.out
    have hms12_1 := NB452_451.out
    have hs13 : w9.cell? ⟨gb452, 3, none⟩ = some (.int .i64 0) := (blk_cell BK452.out 3).trans rfl
    have hfs13 := blk_frozen BK452.out 3
    have hns13_0 := NB450_452.out
    have hns13_1 := NB451_452.out
    have hms13_0 := NB452_450.out
    have hms13_1 := NB452_451.out
    have hs14 : w9.cell? ⟨gb452, 4, none⟩ = some (.int .i64 0) := (blk_cell BK452.out 4).trans rfl
    have hfs14 := blk_frozen BK452.out 4
    have hns14_0 := NB450_452.out
    have hns14_1 := NB451_452.out
    have hms14_0 := NB452_450.out
    have hms14_1 := NB452_451.out
    have hs15 : w9.cell? ⟨gb452, 5, none⟩ = some (.string (⟨#[]⟩ : ByteArray)) := (blk_cell BK452.out 5).trans rfl
    have hfs15 := blk_frozen BK452.out 5
    have hns15_0 := NB450_452.out
    have hns15_1 := NB451_452.out
    have hms15_0 := NB452_450.out
    have hms15_1 := NB452_451.out
    refine skip_ (w1 := ?_) (by rfl) rfl ?_ ?_
    rotate_left
    ·go_simp
     rfl
    refine hK.out _ _ ⟨((cell_far (p := ⟨gb452, _, none⟩) NB450_452.out _).trans (((cell_far (p := ⟨gb452, _, none⟩) NB450_452.out _).trans (((cell_far (p := ⟨gb452, _, none⟩) NB450_452.out _).trans (((cell_far (p := ⟨gb452, _, none⟩) NB450_452.out _).trans (((cell_far (p := ⟨gb452, _, none⟩) NB450_452.out _).trans (((cell_far (p := ⟨gb452, _, none⟩) NB450_452.out _).trans (hHeld.1)))))))))))), ((cell_far (p := ⟨gb452, _, none⟩) NB450_452.out _).trans (((cell_far (p := ⟨gb452, _, none⟩) NB450_452.out _).trans (((cell_far (p := ⟨gb452, _, none⟩) NB450_452.out _).trans (((cell_far (p := ⟨gb452, _, none⟩) NB450_452.out _).trans (((cell_far (p := ⟨gb452, _, none⟩) NB450_452.out _).trans (((cell_far (p := ⟨gb452, _, none⟩) NB450_452.out _).trans (hHeld.2.1)))))))))))), ((cell_far (p := ⟨gb452, _, none⟩) NB450_452.out _).trans (((cell_far (p := ⟨gb452, _, none⟩) NB450_452.out _).trans (((cell_far (p := ⟨gb452, _, none⟩) NB450_452.out _).trans (((cell_far (p := ⟨gb452, _, none⟩) NB450_452.out _).trans (((cell_far (p := ⟨gb452, _, none⟩) NB450_452.out _).trans (((cell_far (p := ⟨gb452, _, none⟩) NB450_452.out _).trans (hHeld.2.2.1)))))))))))), ((cell_far (p := ⟨gb452, _, none⟩) NB450_452.out _).trans (((cell_far (p := ⟨gb452, _, none⟩) NB450_452.out _).trans (((cell_far (p := ⟨gb452, _, none⟩) NB450_452.out _).trans (((cell_far (p := ⟨gb452, _, none⟩) NB450_452.out _).trans (((cell_far (p := ⟨gb452, _, none⟩) NB450_452.out _).trans (((cell_far (p := ⟨gb452, _, none⟩) NB450_452.out _).trans (hHeld.2.2.2.1)))))))))))), ((cell_far (p := ⟨gb452, _, none⟩) NB450_452.out _).trans (((cell_far (p := ⟨gb452, _, none⟩) NB450_452.out _).trans (((cell_far (p := ⟨gb452, _, none⟩) NB450_452.out _).trans (((cell_far (p := ⟨gb452, _, none⟩) NB450_452.out _).trans (((cell_far (p := ⟨gb452, _, none⟩) NB450_452.out _).trans (((cell_far (p := ⟨gb452, _, none⟩) NB450_452.out _).trans (hHeld.2.2.2.2))))))))))))⟩ (fun hHeld => ?_)
    clear hK K
    refine done_ (done_of HT_.out zb5) ?_
    try go_wp2
    first | go_loopg [4] k (fun kq v4 w' => ∃ (x4_1 : Int) (x453001_1 : List (S28)) (u453001 : Value), v4 = .int .i64 x4_1 ∧ Aside0 (broadsheetlaw04_act.l0 kq x4_1 a0_0 a0_1 a0_2 a0_3 a0_4 (wrap64 (a0_0)) x453001_1 (wrap64 ((Int.tmod (wrap64 (a0_3)) 24) - 1)) (wrap64 ((Int.tmod (wrap64 (a0_4)) 30) - 1)) ((⟨#[97, 98, 99]⟩ : ByteArray).extract ((ji2) : Int).toNat ((((ji2) + 1) % 256) : Int).toNat) = some (r1, r2, r3, r4, r5, r6)) ∧ Aside0 (kq ≤ k) ∧ Aside0 (Kd.R k28 28 w' w.heap.size (fun _ => True) u453001 x453001_1) ∧ Aside0 (w'.heap[gb450]? = some (.cells #[.int .u8 a0_0, .int .u8 a0_1, .int .u8 a0_2, .int .u8 a0_3, .int .u8 a0_4] 48 (0, 0))) ∧ Aside0 (w'.heap[gb451]? = some (.cells #[.int .i64 0, (.slice none 0 0), (.slice none 0 0), .int .i64 0, .int .i64 0, .string (⟨#[]⟩ : ByteArray)] 43 (0, 0))) ∧ Aside0 (w'.heap[gb452]? = some (.cells #[.int .i64 (wrap64 (a0_0)), u453001, (.slice none 0 0), .int .i64 (wrap64 ((Int.tmod (wrap64 (a0_3)) 24) - 1)), .int .i64 (wrap64 ((Int.tmod (wrap64 (a0_4)) 30) - 1)), .string ((⟨#[97, 98, 99]⟩ : ByteArray).extract ((ji2) : Int).toNat ((((ji2) + 1) % 256) : Int).toNat)] 43 (0, 0))) ∧ Aside0 (Below w.heap.size w w')) | (go_simp; go_loopg [4] k (fun kq v4 w' => ∃ (x4_1 : Int) (x453001_1 : List (S28)) (u453001 : Value), v4 = .int .i64 x4_1 ∧ Aside0 (broadsheetlaw04_act.l0 kq x4_1 a0_0 a0_1 a0_2 a0_3 a0_4 (wrap64 (a0_0)) x453001_1 (wrap64 ((Int.tmod (wrap64 (a0_3)) 24) - 1)) (wrap64 ((Int.tmod (wrap64 (a0_4)) 30) - 1)) ((⟨#[97, 98, 99]⟩ : ByteArray).extract ((ji2) : Int).toNat ((((ji2) + 1) % 256) : Int).toNat) = some (r1, r2, r3, r4, r5, r6)) ∧ Aside0 (kq ≤ k) ∧ Aside0 (Kd.R k28 28 w' w.heap.size (fun _ => True) u453001 x453001_1) ∧ Aside0 (w'.heap[gb450]? = some (.cells #[.int .u8 a0_0, .int .u8 a0_1, .int .u8 a0_2, .int .u8 a0_3, .int .u8 a0_4] 48 (0, 0))) ∧ Aside0 (w'.heap[gb451]? = some (.cells #[.int .i64 0, (.slice none 0 0), (.slice none 0 0), .int .i64 0, .int .i64 0, .string (⟨#[]⟩ : ByteArray)] 43 (0, 0))) ∧ Aside0 (w'.heap[gb452]? = some (.cells #[.int .i64 (wrap64 (a0_0)), u453001, (.slice none 0 0), .int .i64 (wrap64 ((Int.tmod (wrap64 (a0_3)) 24) - 1)), .int .i64 (wrap64 ((Int.tmod (wrap64 (a0_4)) 30) - 1)), .string ((⟨#[97, 98, 99]⟩ : ByteArray).extract ((ji2) : Int).toNat ((((ji2) + 1) % 256) : Int).toNat)] 43 (0, 0))) ∧ Aside0 (Below w.heap.size w w')))
    case atStart => exact ⟨(0), (([] : List (S28))), (.slice none 0 0), zb21, H', ⟨Nat.le_refl _⟩, ⟨by first | exact Kd.R_nil _ _ _ _ _ | exact Kd.N_nil _ _ _ _ _ | exact Kd.V_nil _ _ _ _ _ | exact Kd.Q_nil _ _ _ _ _ | exact Kd.S_nil _ _ _ _ _⟩, ⟨by (with_reducible repeat (first | refine blk_drewN ?_ _ | refine blk_drew ?_ | refine blk_alloc ?_ _)); refine blk_far ?_ NB450_452.out _; (with_reducible repeat (first | refine blk_drewN ?_ _ | refine blk_drew ?_ | refine blk_alloc ?_ _)); refine blk_far ?_ NB450_452.out _; (with_reducible repeat (first | refine blk_drewN ?_ _ | refine blk_drew ?_ | refine blk_alloc ?_ _)); refine blk_far ?_ NB450_452.out _; (with_reducible repeat (first | refine blk_drewN ?_ _ | refine blk_drew ?_ | refine blk_alloc ?_ _)); refine blk_far ?_ NB450_452.out _; (with_reducible repeat (first | refine blk_drewN ?_ _ | refine blk_drew ?_ | refine blk_alloc ?_ _)); refine blk_far ?_ NB450_452.out _; (with_reducible repeat (first | refine blk_drewN ?_ _ | refine blk_drew ?_ | refine blk_alloc ?_ _)); refine blk_far ?_ NB450_452.out _; (with_reducible repeat (first | refine blk_drewN ?_ _ | refine blk_drew ?_ | refine blk_alloc ?_ _)); exact BK450.out⟩, ⟨by (with_reducible repeat (first | refine blk_drewN ?_ _ | refine blk_drew ?_ | refine blk_alloc ?_ _)); refine blk_far ?_ NB451_452.out _; (with_reducible repeat (first | refine blk_drewN ?_ _ | refine blk_drew ?_ | refine blk_alloc ?_ _)); refine blk_far ?_ NB451_452.out _; (with_reducible repeat (first | refine blk_drewN ?_ _ | refine blk_drew ?_ | refine blk_alloc ?_ _)); refine blk_far ?_ NB451_452.out _; (with_reducible repeat (first | refine blk_drewN ?_ _ | refine blk_drew ?_ | refine blk_alloc ?_ _)); refine blk_far ?_ NB451_452.out _; (with_reducible repeat (first | refine blk_drewN ?_ _ | refine blk_drew ?_ | refine blk_alloc ?_ _)); refine blk_far ?_ NB451_452.out _; (with_reducible repeat (first | refine blk_drewN ?_ _ | refine blk_drew ?_ | refine blk_alloc ?_ _)); refine blk_far ?_ NB451_452.out _; (with_reducible repeat (first | refine blk_drewN ?_ _ | refine blk_drew ?_ | refine blk_alloc ?_ _)); exact BK451.out⟩, ⟨by (with_reducible repeat (first | refine blk_drewN ?_ _ | refine blk_drew ?_ | refine blk_alloc ?_ _)); refine blk_put (cs := #[.int .i64 (wrap64 (a0_0)), .slice none 0 0, .slice none 0 0, .int .i64 (wrap64 ((Int.tmod (wrap64 (a0_3)) 24) - 1)), .int .i64 (wrap64 ((Int.tmod (wrap64 (a0_4)) 30) - 1)), .string (⟨#[]⟩ : ByteArray)]) ?_ 5 _ rfl; (with_reducible repeat (first | refine blk_drewN ?_ _ | refine blk_drew ?_ | refine blk_alloc ?_ _)); refine blk_put (cs := #[.int .i64 (wrap64 (a0_0)), .slice none 0 0, .slice none 0 0, .int .i64 (wrap64 ((Int.tmod (wrap64 (a0_3)) 24) - 1)), .int .i64 0, .string (⟨#[]⟩ : ByteArray)]) ?_ 4 _ rfl; (with_reducible repeat (first | refine blk_drewN ?_ _ | refine blk_drew ?_ | refine blk_alloc ?_ _)); refine blk_put (cs := #[.int .i64 (wrap64 (a0_0)), .slice none 0 0, .slice none 0 0, .int .i64 0, .int .i64 0, .string (⟨#[]⟩ : ByteArray)]) ?_ 3 _ rfl; (with_reducible repeat (first | refine blk_drewN ?_ _ | refine blk_drew ?_ | refine blk_alloc ?_ _)); refine blk_put (cs := #[.int .i64 (wrap64 (a0_0)), .slice none 0 0, .slice none 0 0, .int .i64 0, .int .i64 0, .string (⟨#[]⟩ : ByteArray)]) ?_ 2 _ rfl; (with_reducible repeat (first | refine blk_drewN ?_ _ | refine blk_drew ?_ | refine blk_alloc ?_ _)); refine blk_put (cs := #[.int .i64 (wrap64 (a0_0)), .slice none 0 0, .slice none 0 0, .int .i64 0, .int .i64 0, .string (⟨#[]⟩ : ByteArray)]) ?_ 1 _ rfl; (with_reducible repeat (first | refine blk_drewN ?_ _ | refine blk_drew ?_ | refine blk_alloc ?_ _)); refine blk_put (cs := #[.int .i64 0, .slice none 0 0, .slice none 0 0, .int .i64 0, .int .i64 0, .string (⟨#[]⟩ : ByteArray)]) ?_ 0 _ rfl; (with_reducible repeat (first | refine blk_drewN ?_ _ | refine blk_drew ?_ | refine blk_alloc ?_ _)); exact BK452.out⟩, ⟨by repeat (first | (with_reducible first | exact HB.out | apply below_alloc | apply pw_below_drewN | apply below_drew1 | refine below_set ?_ GE450.out | refine below_set ?_ GE451.out | refine below_set ?_ GE452.out) | exact HB.out)⟩⟩
    case round =>
     clear H'
     try clear c1
     try clear p2
     try clear c3
     try clear c3b0
     try clear c3b1
     try clear c4
     try clear c4b0
     try clear c4b1
     try clear c5
     try clear c5b0
     try clear c5b1
     try clear p6
     obtain ⟨x4_1, x453001_1, u453001, rfl, HA, HK1, HO_453001, BK450, BK451, BK452, HB⟩ := hrel
     cases gk with
     | zero => exact absurd HA.out (by simp [broadsheetlaw04_act.l0])
     | succ k1 =>
      have H := HA.out
      clear HA
      simp only [broadsheetlaw04_act.l0] at H
      by_cases c16 : x4_1 < (Int.tmod (wrap64 (a0_1)) 4)
      ·rw [if_pos c16] at H
       have c16b0 : decide (x4_1 < (Int.tmod (wrap64 (a0_1)) 4)) = true := decide_eq_true c16
       clear c16
       obtain ⟨ji17, hji17⟩ : ∃ j_ : Int, (Int.tmod (wrap64 ((wrap64 (a0_2)) + (wrap64 (x4_1 * (wrap64 (a0_4)))))) 3) = j_ := ⟨_, rfl⟩
       replace H : (if 0 ≤ (ji17) then (if (ji17) ≤ (wrap64 ((ji17) + 1)) then (if (wrap64 ((ji17) + 1)) ≤ 3 then (if 0 ≤ (Int.tmod (wrap64 (a0_3)) 8) then (if (Int.tmod (wrap64 (a0_3)) 8) ≤ 8 then (if x453001_1.length < 4398046511104 then (broadsheetlaw04_act.l0 k1 (wrap64 (x4_1 + 1)) a0_0 a0_1 a0_2 a0_3 a0_4 (wrap64 (a0_0)) (x453001_1 ++ [(⟨(⟨#[97, 98, 99]⟩ : ByteArray).extract ((ji17) : Int).toNat ((wrap64 ((ji17) + 1)) : Int).toNat, (⟨#[115, 116, 117, 118, 119, 120, 121, 122]⟩ : ByteArray).extract ((Int.tmod (wrap64 (a0_3)) 8) : Int).toNat (⟨#[115, 116, 117, 118, 119, 120, 121, 122]⟩ : ByteArray).size⟩ : S28)]) (wrap64 ((Int.tmod (wrap64 (a0_3)) 24) - 1)) (wrap64 ((Int.tmod (wrap64 (a0_4)) 30) - 1)) ((⟨#[97, 98, 99]⟩ : ByteArray).extract ((ji2) : Int).toNat ((((ji2) + 1) % 256) : Int).toNat)) else (none)) else (none)) else (none)) else (none)) else (none)) else (none)) = some (r1, r2, r3, r4, r5, r6) := by first | (rw [hji17] at H; exact H) | (simp only [hji17] at H ⊢; exact H)
       by_cases c18 : 0 ≤ (ji17)
       ·rw [if_pos c18] at H
        have c18b0 := eq_true c18
        have c18b1 : decide (0 ≤ (ji17)) = true := decide_eq_true c18
        clear c18
        by_cases c19 : (ji17) ≤ (wrap64 ((ji17) + 1))
        ·rw [if_pos c19] at H
         have c19b0 := eq_true c19
         have c19b1 : decide ((ji17) ≤ (wrap64 ((ji17) + 1))) = true := decide_eq_true c19
         by_cases c20 : (wrap64 ((ji17) + 1)) ≤ 3
         ·rw [if_pos c20] at H
          have c20b0 := eq_true c20
          have c20b1 : decide ((wrap64 ((ji17) + 1)) ≤ 3) = true := decide_eq_true c20
          obtain ⟨ji21, hji21⟩ : ∃ j_ : Int, (Int.tmod (wrap64 (a0_3)) 8) = j_ := ⟨_, rfl⟩
          replace H : (if 0 ≤ (ji21) then (if (ji21) ≤ 8 then (if x453001_1.length < 4398046511104 then (broadsheetlaw04_act.l0 k1 (wrap64 (x4_1 + 1)) a0_0 a0_1 a0_2 a0_3 a0_4 (wrap64 (a0_0)) (x453001_1 ++ [(⟨(⟨#[97, 98, 99]⟩ : ByteArray).extract ((ji17) : Int).toNat ((wrap64 ((ji17) + 1)) : Int).toNat, (⟨#[115, 116, 117, 118, 119, 120, 121, 122]⟩ : ByteArray).extract ((ji21) : Int).toNat (⟨#[115, 116, 117, 118, 119, 120, 121, 122]⟩ : ByteArray).size⟩ : S28)]) (wrap64 ((Int.tmod (wrap64 (a0_3)) 24) - 1)) (wrap64 ((Int.tmod (wrap64 (a0_4)) 30) - 1)) ((⟨#[97, 98, 99]⟩ : ByteArray).extract ((ji2) : Int).toNat ((((ji2) + 1) % 256) : Int).toNat)) else (none)) else (none)) else (none)) = some (r1, r2, r3, r4, r5, r6) := by first | (rw [hji21] at H; exact H) | (simp only [hji21] at H ⊢; exact H)
          by_cases c22 : 0 ≤ (ji21)
          ·rw [if_pos c22] at H
           have c22b0 := eq_true c22
           have c22b1 : decide (0 ≤ (ji21)) = true := decide_eq_true c22
           clear c22
           by_cases c23 : (ji21) ≤ 8
           ·rw [if_pos c23] at H
            have c23b0 := eq_true c23
            have c23b1 : decide ((ji21) ≤ 8) = true := decide_eq_true c23
            clear c23
            by_cases c24 : x453001_1.length < 4398046511104
            ·rw [if_pos c24] at H
             have LMc24 := Aside0.mk c24
             clear c24
             obtain ⟨y453, hy453⟩ : ∃ y_ : List (S28), y_ = (x453001_1 ++ [(⟨(⟨#[97, 98, 99]⟩ : ByteArray).extract ((ji17) : Int).toNat ((wrap64 ((ji17) + 1)) : Int).toNat, (⟨#[115, 116, 117, 118, 119, 120, 121, 122]⟩ : ByteArray).extract ((ji21) : Int).toNat (⟨#[115, 116, 117, 118, 119, 120, 121, 122]⟩ : ByteArray).size⟩ : S28)]) := ⟨_, rfl⟩
             replace H : (broadsheetlaw04_act.l0 k1 (wrap64 (x4_1 + 1)) a0_0 a0_1 a0_2 a0_3 a0_4 (wrap64 (a0_0)) y453 (wrap64 ((Int.tmod (wrap64 (a0_3)) 24) - 1)) (wrap64 ((Int.tmod (wrap64 (a0_4)) 30) - 1)) ((⟨#[97, 98, 99]⟩ : ByteArray).extract ((ji2) : Int).toNat ((((ji2) + 1) % 256) : Int).toNat)) = some (r1, r2, r3, r4, r5, r6) := by first | (rw [hy453]; with_reducible exact H) | (have H2_ := (Option.bind_some _ _).symm.trans H; rw [hy453]; with_reducible exact H2_) | (have H2_ := (Option.bind_some _ _).symm.trans H; with_reducible exact H2_) | with_reducible exact H | (rw [hy453]; exact H) | exact H
             have Ny453 := Aside0.mk hy453
             clear hy453
             have H' := Aside0.mk H
             clear H
             have hnb25 := NB450_451.out
             have hnc25 := NB451_450.out
             have hnb26 := NB450_452.out
             have hnc26 := NB452_450.out
             have hcz27_0 : wr.cell? ⟨gb450, 0, none⟩ = some (.int .u8 a0_0) := (blk_cell BK450.out 0).trans rfl
             have hcz27_1 : wr.cell? ⟨gb450, 1, none⟩ = some (.int .u8 a0_1) := (blk_cell BK450.out 1).trans rfl
             have hcz27_2 : wr.cell? ⟨gb450, 2, none⟩ = some (.int .u8 a0_2) := (blk_cell BK450.out 2).trans rfl
             have hcz27_3 : wr.cell? ⟨gb450, 3, none⟩ = some (.int .u8 a0_3) := (blk_cell BK450.out 3).trans rfl
             have hcz27_4 : wr.cell? ⟨gb450, 4, none⟩ = some (.int .u8 a0_4) := (blk_cell BK450.out 4).trans rfl
             have hfz27_0 := blk_frozen BK450.out 0
             have hfz27_1 := blk_frozen BK450.out 1
             have hfz27_2 := blk_frozen BK450.out 2
             have hfz27_3 := blk_frozen BK450.out 3
             have hfz27_4 := blk_frozen BK450.out 4
             try go_wp2
             have n0_ := Aside0.mk (Kd.R_drew HO_453001.out)
             have n1_ := Aside0.mk (blk_drew BK450.out)
             have n2_ := Aside0.mk (blk_drew BK451.out)
             have n3_ := Aside0.mk (blk_drew BK452.out)
             have n4_ := Aside0.mk (below_drew1 HB.out)
             clear HO_453001
             clear BK450
             clear BK451
             clear BK452
             clear HB
             have HO_453001 := n0_
             have BK450 := n1_
             have BK451 := n2_
             have BK452 := n3_
             have HB := n4_
             clear n0_ n1_ n2_ n3_ n4_
             refine start_ (n := 16) (S := fun w' => w'.cell? ⟨gb452, 0, none⟩ = some (.int .i64 (wrap64 (a0_0))) ∧ w'.cell? ⟨gb452, 1, none⟩ = some (u453001) ∧ w'.cell? ⟨gb452, 2, none⟩ = some (.slice none 0 0) ∧ w'.cell? ⟨gb452, 3, none⟩ = some (.int .i64 (wrap64 ((Int.tmod (wrap64 (a0_3)) 24) - 1))) ∧ w'.cell? ⟨gb452, 4, none⟩ = some (.int .i64 (wrap64 ((Int.tmod (wrap64 (a0_4)) 30) - 1))) ∧ w'.cell? ⟨gb452, 5, none⟩ = some (.string ((⟨#[97, 98, 99]⟩ : ByteArray).extract ((ji2) : Int).toNat ((((ji2) + 1) % 256) : Int).toNat)) ∧ w'.cell? ⟨gb450, 0, none⟩ = some (.int .u8 a0_0) ∧ w'.cell? ⟨gb450, 1, none⟩ = some (.int .u8 a0_1) ∧ w'.cell? ⟨gb450, 2, none⟩ = some (.int .u8 a0_2) ∧ w'.cell? ⟨gb450, 3, none⟩ = some (.int .u8 a0_3) ∧ w'.cell? ⟨gb450, 4, none⟩ = some (.int .u8 a0_4)) (ds := [15]) #[false, false, false, false, false, false, false, false, false, false, false, false, false, false, false, false] zb5 rfl rfl ⟨(blk_cell BK452.out 0).trans rfl, (blk_cell BK452.out 1).trans rfl, (blk_cell BK452.out 2).trans rfl, (blk_cell BK452.out 3).trans rfl, (blk_cell BK452.out 4).trans rfl, (blk_cell BK452.out 5).trans rfl, (blk_cell BK450.out 0).trans rfl, (blk_cell BK450.out 1).trans rfl, (blk_cell BK450.out 2).trans rfl, (blk_cell BK450.out 3).trans rfl, (blk_cell BK450.out 4).trans rfl⟩ (fun hHeld => ?_); refine with_tabW broadsheetlaw04_act.tab6 broadsheetlaw04_act.bits6 (fun HT_ HW_ => ?_)
             generalize wr.drew = w28 at HO_453001 BK450 BK451 BK452 HB hHeld ⊢
             refine pure_ (i := 0) (N := some 46) (v := ?_) (a' := ?_) #[true, false, false, false, false, false, false, false, false, false, false, false, false, false, false, false] rfl rfl (any_of HT_.out zb5) (fun _ _ _ h => h) (Or.inl ⟨by rfl, ?_⟩) ?_ ?_
             rotate_left
             ·intro w'
              go_simp
              first | with_reducible rfl | (rw [act_cut] <;> first | with_reducible rfl | rfl | exact of_decide_eq_true zb29 | exact of_eq_true zb29 | assumption) | (rw [if_neg zb0])
             rotate_left
             ·simp only [Act.put, List.setIfInBounds_toArray, List.set_cons_zero, List.set_cons_succ, i64_w, i32_w]
              rfl
             refine pure_ (i := 2) (N := some 48) (v := ?_) (a' := ?_) #[true, false, true, false, false, false, false, false, false, false, false, false, false, false, false, false] rfl rfl (any_of HT_.out zb5) (fun _ _ _ h => h) (Or.inl ⟨by rfl, ?_⟩) ?_ ?_
             rotate_left
             ·intro w'
              go_simp
              first | with_reducible rfl | (rw [act_cut] <;> first | with_reducible rfl | rfl | exact of_decide_eq_true zb29 | exact of_eq_true zb29 | assumption) | (rw [if_neg zb0])
             rotate_left
             ·simp only [Act.put, List.setIfInBounds_toArray, List.set_cons_zero, List.set_cons_succ, i64_w, i32_w]
              rfl
             refine pure_ (i := 3) (N := some 49) (v := ?_) (a' := ?_) #[true, false, true, true, false, false, false, false, false, false, false, false, false, false, false, false] rfl rfl (any_of HT_.out zb5) (fun _ _ _ h => h) (Or.inl ⟨by rfl, ?_⟩) ?_ ?_
             rotate_left
             ·intro w'
              go_simp
              first | with_reducible rfl | (rw [act_cut] <;> first | with_reducible rfl | rfl | exact of_decide_eq_true zb29 | exact of_eq_true zb29 | assumption) | (rw [if_neg zb0])
             rotate_left
             ·simp only [Act.put, List.setIfInBounds_toArray, List.set_cons_zero, List.set_cons_succ, i64_w, i32_w]
              rfl
             refine pure_ (i := 4) (N := some 50) (v := ?_) (a' := ?_) #[true, false, true, true, true, false, false, false, false, false, false, false, false, false, false, false] rfl rfl (any_of HT_.out zb5) (fun _ _ _ h => h) (Or.inl ⟨by rfl, ?_⟩) ?_ ?_
             rotate_left
             ·intro w'
              go_simp
              first | with_reducible rfl | (rw [act_cut] <;> first | with_reducible rfl | rfl | exact of_decide_eq_true zb29 | exact of_eq_true zb29 | assumption) | (rw [if_neg zb0])
             rotate_left
             ·simp only [Act.put, List.setIfInBounds_toArray, List.set_cons_zero, List.set_cons_succ, i64_w, i32_w]
              rfl
             refine pure_ (i := 5) (N := some 51) (v := ?_) (a' := ?_) #[true, false, true, true, true, true, false, false, false, false, false, false, false, false, false, false] rfl rfl (any_of HT_.out zb5) (fun _ _ _ h => h) (Or.inl ⟨by rfl, ?_⟩) ?_ ?_
             rotate_left
             ·intro w'
              go_simp
              first | with_reducible rfl | (rw [act_cut] <;> first | with_reducible rfl | rfl | exact of_decide_eq_true zb29 | exact of_eq_true zb29 | assumption) | (rw [if_neg zb0])
             rotate_left
             ·simp only [Act.put, List.setIfInBounds_toArray, List.set_cons_zero, List.set_cons_succ, i64_w, i32_w]
              rfl
             refine pure_ (i := 6) (N := some 52) (v := ?_) (a' := ?_) #[true, false, true, true, true, true, true, false, false, false, false, false, false, false, false, false] rfl rfl (any_of HT_.out zb5) (fun _ _ _ h => h) (Or.inl ⟨by rfl, ?_⟩) ?_ ?_
             rotate_left
             ·intro w'
              go_simp
              first | with_reducible rfl | (rw [act_cut] <;> first | with_reducible rfl | rfl | exact of_decide_eq_true zb29 | exact of_eq_true zb29 | assumption) | (rw [if_neg zb0])
             rotate_left
             ·simp only [Act.put, List.setIfInBounds_toArray, List.set_cons_zero, List.set_cons_succ, i64_w, i32_w]
              rfl
             refine take_ (i := 1) (N := some 47) (v := ?_) (a' := ?_) #[true, true, true, true, true, true, true, false, false, false, false, false, false, false, false, false] rfl rfl (take_ofW HT_.out HW_.out zb5) (fun _ _ _ h => h) (Or.inl ⟨by rfl, ?_⟩) hHeld ?_ ?_
             rotate_left
             ·rintro w' ⟨s0, s1, s2, s3, s4, s5, s6, s7, s8, s9, s10⟩
              go_simp
              first | with_reducible rfl | (rw [act_cut] <;> first | with_reducible rfl | rfl | exact of_decide_eq_true zb29 | exact of_eq_true zb29 | assumption) | (rw [if_neg zb0])
             rotate_left
             ·simp only [Act.put, List.setIfInBounds_toArray, List.set_cons_zero, List.set_cons_succ, i64_w, i32_w]
              rfl
             refine take_ (i := 7) (N := some 53) (v := ?_) (a' := ?_) #[true, true, true, true, true, true, true, true, false, false, false, false, false, false, false, false] rfl rfl (take_ofW HT_.out HW_.out zb5) (fun _ _ _ h => h) (Or.inl ⟨by rfl, ?_⟩) hHeld ?_ ?_
             rotate_left
             ·rintro w' ⟨s0, s1, s2, s3, s4, s5, s6, s7, s8, s9, s10⟩
              go_simp
              first | with_reducible rfl | (rw [act_cut] <;> first | with_reducible rfl | rfl | exact of_decide_eq_true zb29 | exact of_eq_true zb29 | assumption) | (rw [if_neg zb0])
             rotate_left
             ·simp only [Act.put, List.setIfInBounds_toArray, List.set_cons_zero, List.set_cons_succ, i64_w, i32_w]
              rfl
             refine pure_ (i := 8) (N := some 54) (v := ?_) (a' := ?_) #[true, true, true, true, true, true, true, true, true, false, false, false, false, false, false, false] rfl rfl (any_of HT_.out zb5) (fun _ _ _ h => h) (Or.inl ⟨by rfl, ?_⟩) ?_ ?_
             rotate_left
             ·intro w'
              go_simp
              first | with_reducible rfl | (rw [act_cut] <;> first | with_reducible rfl | rfl | exact of_decide_eq_true zb29 | exact of_eq_true zb29 | assumption) | (rw [if_neg zb0])
             rotate_left
             ·simp only [Act.put, List.setIfInBounds_toArray, List.set_cons_zero, List.set_cons_succ, i64_w, i32_w]
              rfl
             refine pure_ (i := 9) (N := some 55) (v := ?_) (a' := ?_) #[true, true, true, true, true, true, true, true, true, true, false, false, false, false, false, false] rfl rfl (any_of HT_.out zb5) (fun _ _ _ h => h) (Or.inl ⟨by rfl, ?_⟩) ?_ ?_
             rotate_left
             ·intro w'
              go_simp
              first | with_reducible rfl | (rw [act_cut] <;> first | with_reducible rfl | rfl | exact of_decide_eq_true zb29 | exact of_eq_true zb29 | assumption) | (rw [if_neg zb0])
             rotate_left
             ·simp only [Act.put, List.setIfInBounds_toArray, List.set_cons_zero, List.set_cons_succ, i64_w, i32_w]
              rfl
             refine pure_ (i := 10) (N := some 56) (v := ?_) (a' := ?_) #[true, true, true, true, true, true, true, true, true, true, true, false, false, false, false, false] rfl rfl (any_of HT_.out zb5) (fun _ _ _ h => h) (Or.inl ⟨by rfl, ?_⟩) ?_ ?_
             rotate_left
             ·intro w'
              go_simp
              first | with_reducible rfl | (rw [act_cut] <;> first | with_reducible rfl | rfl | exact of_decide_eq_true zb29 | exact of_eq_true zb29 | assumption) | (rw [if_neg zb0])
             rotate_left
             ·simp only [Act.put, List.setIfInBounds_toArray, List.set_cons_zero, List.set_cons_succ, i64_w, i32_w]
              rfl
             refine pure_ (i := 11) (N := some 57) (v := ?_) (a' := ?_) #[true, true, true, true, true, true, true, true, true, true, true, true, false, false, false, false] rfl rfl (any_of HT_.out zb5) (fun _ _ _ h => h) (Or.inl ⟨by rfl, ?_⟩) ?_ ?_
             rotate_left
             ·intro w'
              go_simp
              first | with_reducible rfl | (rw [act_cut] <;> first | with_reducible rfl | rfl | exact of_decide_eq_true zb29 | exact of_eq_true zb29 | assumption) | (rw [if_neg zb0])
             rotate_left
             ·simp only [Act.put, List.setIfInBounds_toArray, List.set_cons_zero, List.set_cons_succ, i64_w, i32_w]
              rfl
             refine one_ (i := 12) (N := some 58) #[true, true, true, true, true, true, true, true, true, true, true, true, true, false, false, false] rfl rfl (one_of HT_.out zb5) zb25 (fun K hK => ?_)
             refine value_ (w1 := ?_) (v := ?_) (by rfl) rfl ?_ ?_
             rotate_left 2
             ·go_simp
              constructor
              ·rfl
              ·rfl
             refine hK.out _ _ ⟨(blk_cell (blk_alloc BK452.out _) 0).trans rfl, (blk_cell (blk_alloc BK452.out _) 1).trans rfl, (blk_cell (blk_alloc BK452.out _) 2).trans rfl, (blk_cell (blk_alloc BK452.out _) 3).trans rfl, (blk_cell (blk_alloc BK452.out _) 4).trans rfl, (blk_cell (blk_alloc BK452.out _) 5).trans rfl, (blk_cell (blk_alloc BK450.out _) 0).trans rfl, (blk_cell (blk_alloc BK450.out _) 1).trans rfl, (blk_cell (blk_alloc BK450.out _) 2).trans rfl, (blk_cell (blk_alloc BK450.out _) 3).trans rfl, (blk_cell (blk_alloc BK450.out _) 4).trans rfl⟩ (fun hHeld => ?_)
             clear hK K
             refine norm_ (a' := ?_) ?_ ?_
             rotate_left
             ·show Act.put _ (some 58) _ = _
              simp only [Act.put, List.setIfInBounds_toArray, List.set_cons_zero, List.set_cons_succ, i64_w, i32_w]
              rfl
             refine one_ (i := 13) (N := some 59) #[true, true, true, true, true, true, true, true, true, true, true, true, true, true, false, false] rfl rfl (one_of HT_.out zb5) zb25 (fun K hK => ?_)
             refine Kd.R_append_step k28 (w0 := w) w.heap.size (by rfl) (.tmp 47) (.tmp 58) 22 28 (.agg #[(.string ⟨#[]⟩), (.string ⟨#[]⟩)]) 32 rfl Tryz.underlying22 info28 rfl zb25 zb13 u453001 x453001_1 (⟨(⟨#[97, 98, 99]⟩ : ByteArray).extract ((ji17) : Int).toNat ((wrap64 ((ji17) + 1)) : Int).toNat, (⟨#[115, 116, 117, 118, 119, 120, 121, 122]⟩ : ByteArray).extract ((ji21) : Int).toNat (⟨#[115, 116, 117, 118, 119, 120, 121, 122]⟩ : ByteArray).size⟩ : S28) [.string ((⟨#[97, 98, 99]⟩ : ByteArray).extract ((ji17) : Int).toNat ((wrap64 ((ji17) + 1)) : Int).toNat), .string ((⟨#[115, 116, 117, 118, 119, 120, 121, 122]⟩ : ByteArray).extract ((ji21) : Int).toNat (⟨#[115, 116, 117, 118, 119, 120, 121, 122]⟩ : ByteArray).size)] (fun _ => True) (fun _ => False) rfl rfl ?aP (fun _ hk => hk.elim) ?aF ?aO ?aB ?aS ?aL ?_
             (case aP => exact k28_mkM _ _ _ (⟨(⟨#[97, 98, 99]⟩ : ByteArray).extract ((ji17) : Int).toNat ((wrap64 ((ji17) + 1)) : Int).toNat, (⟨#[115, 116, 117, 118, 119, 120, 121, 122]⟩ : ByteArray).extract ((ji21) : Int).toNat (⟨#[115, 116, 117, 118, 119, 120, 121, 122]⟩ : ByteArray).size⟩ : S28))
             (case aB => exact zb18)
             (case aF => exact (fun _ _ => trivial))
             (case aO => exact (by (with_reducible repeat (first | apply Kd.R_alloc | apply Kd.R_drewN | apply Kd.R_drew)); exact HO_453001.out))
             (case aS => exact (below_size zb18))
             (case aL => have := LMc24.out; omega)
             intro v454 w29 ho hb hg hat
             rw [← Ny453.out] at ho
             have n0_ := Aside0.mk (blk_grown (g := gb450) (o := .cells #[.int .u8 a0_0, .int .u8 a0_1, .int .u8 a0_2, .int .u8 a0_3, .int .u8 a0_4] 48 (0, 0)) zb27 hg (Kd.R_ne HO_453001.out BK450.out zb25))
             have n1_ := Aside0.mk (blk_grown (g := gb451) (o := .cells #[.int .i64 0, .slice none 0 0, .slice none 0 0, .int .i64 0, .int .i64 0, .string (⟨#[]⟩ : ByteArray)] 43 (0, 0)) zb33 hg (Kd.R_ne HO_453001.out BK451.out zb25))
             have n2_ := Aside0.mk (blk_grown (g := gb452) (o := .cells #[.int .i64 (wrap64 (a0_0)), u453001, .slice none 0 0, .int .i64 (wrap64 ((Int.tmod (wrap64 (a0_3)) 24) - 1)), .int .i64 (wrap64 ((Int.tmod (wrap64 (a0_4)) 30) - 1)), .string ((⟨#[97, 98, 99]⟩ : ByteArray).extract ((ji2) : Int).toNat ((((ji2) + 1) % 256) : Int).toNat)] 43 (0, 0)) (by (with_reducible repeat (first | refine blk_drewN ?_ _ | refine blk_drew ?_ | refine blk_alloc ?_ _)); exact BK452.out) hg (Kd.R_ne HO_453001.out BK452.out zb25))
             have n3_ := Aside0.mk (hb)
             have n4_ := Aside0.mk (ho)
             clear BK450
             clear BK451
             clear BK452
             clear HB
             clear HO_453001
             have BK450 := n0_
             have BK451 := n1_
             have BK452 := n2_
             have HB := n3_
             have HO455 := n4_
             clear n0_ n1_ n2_ n3_ n4_
             clear ho hb hg hat
             obtain ⟨Ao30, co30, eo30⟩ := Kd.R_slice HO455.out
             (first | subst eo30 | (injection eo30 with f1_ f2_ f3_; have f4_ := f1_.symm; have f5_ := f3_.symm; clear f1_ f2_ f3_; subst f4_; subst f5_))
             refine hK.out _ _ ⟨(blk_cell BK452.out 0).trans rfl, (blk_cell BK452.out 1).trans rfl, (blk_cell BK452.out 2).trans rfl, (blk_cell BK452.out 3).trans rfl, (blk_cell BK452.out 4).trans rfl, (blk_cell BK452.out 5).trans rfl, (blk_cell BK450.out 0).trans rfl, (blk_cell BK450.out 1).trans rfl, (blk_cell BK450.out 2).trans rfl, (blk_cell BK450.out 3).trans rfl, (blk_cell BK450.out 4).trans rfl⟩ (fun hHeld => ?_)
             clear hK K
             refine norm_ (a' := ?_) ?_ ?_
             rotate_left
             ·show Act.put _ (some 59) _ = _
              simp only [Act.put, List.setIfInBounds_toArray, List.set_cons_zero, List.set_cons_succ, i64_w, i32_w]
              rfl
             refine pure_ (i := 14) (N := some 60) (v := ?_) (a' := ?_) #[true, true, true, true, true, true, true, true, true, true, true, true, true, true, true, false] rfl rfl (any_of HT_.out zb5) (fun _ _ _ h => h) (Or.inl ⟨by rfl, ?_⟩) ?_ ?_
             rotate_left
             ·intro w'
              go_simp
              first | with_reducible rfl | (rw [act_cut] <;> first | with_reducible rfl | rfl | exact of_decide_eq_true zb29 | exact of_eq_true zb29 | assumption) | (rw [if_neg zb0])
             rotate_left
             ·simp only [Act.put, List.setIfInBounds_toArray, List.set_cons_zero, List.set_cons_succ, i64_w, i32_w]
              rfl
             refine last_ (i := 15) (N := none) #[true, true, true, true, true, true, true, true, true, true, true, true, true, true, true, true] rfl rfl (one_of HT_.out zb5) zb25 (fun K hK => ?_)
             have hs31 : w29.cell? ⟨gb452, 1, none⟩ = some (u453001) := (blk_cell BK452.out 1).trans rfl
             have hfs31 := blk_frozen BK452.out 1
             have hns31_0 := NB450_452.out
             have hns31_1 := NB451_452.out
             have hms31_0 := NB452_450.out
             have hms31_1 := NB452_451.out
             refine skip_ (w1 := ?_) (by rfl) rfl ?_ ?_
             rotate_left
             ·go_simp
              rfl
             refine hK.out _ _ ?_
             clear hK K
             refine done_ (done_of HT_.out zb5) ?_
             try go_wp2
             go_roundg k1
             case measure => have := HK1.out; omega
             case rel => exact ⟨(wrap64 (x4_1 + 1)), (y453), (.slice Ao30 y453.length co30), zb21, H', ⟨by have := HK1.out; omega⟩, ⟨by (with_reducible repeat (first | apply Kd.R_alloc | apply Kd.R_drewN | apply Kd.R_drew)); exact Kd.R_mono (Kd.R_far (p := ⟨gb452, 1, none⟩) (Kd.R_types HO455.out BK452.out zb25) (fun _ hk => hk.2) (.slice Ao30 y453.length co30)) (fun _ hk => trivial)⟩, ⟨by (with_reducible repeat (first | refine blk_drewN ?_ _ | refine blk_drew ?_ | refine blk_alloc ?_ _)); refine blk_far ?_ NB450_452.out _; (with_reducible repeat (first | refine blk_drewN ?_ _ | refine blk_drew ?_ | refine blk_alloc ?_ _)); exact BK450.out⟩, ⟨by (with_reducible repeat (first | refine blk_drewN ?_ _ | refine blk_drew ?_ | refine blk_alloc ?_ _)); refine blk_far ?_ NB451_452.out _; (with_reducible repeat (first | refine blk_drewN ?_ _ | refine blk_drew ?_ | refine blk_alloc ?_ _)); exact BK451.out⟩, ⟨by (with_reducible repeat (first | refine blk_drewN ?_ _ | refine blk_drew ?_ | refine blk_alloc ?_ _)); refine blk_put (cs := #[.int .i64 (wrap64 (a0_0)), u453001, .slice none 0 0, .int .i64 (wrap64 ((Int.tmod (wrap64 (a0_3)) 24) - 1)), .int .i64 (wrap64 ((Int.tmod (wrap64 (a0_4)) 30) - 1)), .string ((⟨#[97, 98, 99]⟩ : ByteArray).extract ((ji2) : Int).toNat ((((ji2) + 1) % 256) : Int).toNat)]) ?_ 1 _ rfl; (with_reducible repeat (first | refine blk_drewN ?_ _ | refine blk_drew ?_ | refine blk_alloc ?_ _)); exact BK452.out⟩, ⟨by repeat (first | (with_reducible first | exact HB.out | apply below_alloc | apply pw_below_drewN | apply below_drew1 | refine below_set ?_ GE450.out | refine below_set ?_ GE451.out | refine below_set ?_ GE452.out) | exact HB.out)⟩⟩
            ·rw [if_neg c24] at H
             exact absurd H zb35
           ·rw [if_neg c23] at H
            exact absurd H zb35
          ·rw [if_neg c22] at H
           exact absurd H zb35
         ·rw [if_neg c20] at H
          exact absurd H zb35
        ·rw [if_neg c19] at H
         exact absurd H zb35
       ·rw [if_neg c18] at H
        exact absurd H zb35
      ·rw [if_neg c16] at H
       have c16b0 : decide (x4_1 < (Int.tmod (wrap64 (a0_1)) 4)) = false := decide_eq_false c16
       clear c16
       by_cases c32 : (Int.tmod a0_2 4) = 0
       ·rw [if_pos c32] at H
        have c32b0 : ((Int.tmod a0_2 4) == 0) = true := beq_iff_eq.mpr c32
        have c32b1 : ((Int.tmod a0_2 4) != 0) = false := bne_eq_false_iff_eq.mpr c32
        clear c32
        obtain ⟨ji33, hji33⟩ : ∃ j_ : Int, (Int.tmod a0_4 3) = j_ := ⟨_, rfl⟩
        replace H : (if 0 ≤ (ji33) then (if (ji33) ≤ (((ji33) + 1) % 256) then (if (((ji33) + 1) % 256) ≤ 3 then (some ((wrap64 (a0_0)), x453001_1, (([(⟨#[97, 98, 99]⟩ : ByteArray).extract ((ji33) : Int).toNat ((((ji33) + 1) % 256) : Int).toNat] : List ByteArray)), (wrap64 ((Int.tmod (wrap64 (a0_3)) 24) - 1)), (wrap64 ((Int.tmod (wrap64 (a0_4)) 30) - 1)), ((⟨#[97, 98, 99]⟩ : ByteArray).extract ((ji2) : Int).toNat ((((ji2) + 1) % 256) : Int).toNat))) else (none)) else (none)) else (none)) = some (r1, r2, r3, r4, r5, r6) := by first | (rw [hji33] at H; exact H) | (simp only [hji33] at H ⊢; exact H)
        by_cases c34 : 0 ≤ (ji33)
        ·rw [if_pos c34] at H
         have c34b0 := eq_true c34
         have c34b1 : decide (0 ≤ (ji33)) = true := decide_eq_true c34
         clear c34
         by_cases c35 : (ji33) ≤ (((ji33) + 1) % 256)
         ·rw [if_pos c35] at H
          have c35b0 := eq_true c35
          have c35b1 : decide ((ji33) ≤ (((ji33) + 1) % 256)) = true := decide_eq_true c35
          by_cases c36 : (((ji33) + 1) % 256) ≤ 3
          ·rw [if_pos c36] at H
           have c36b0 := eq_true c36
           have c36b1 : decide ((((ji33) + 1) % 256) ≤ 3) = true := decide_eq_true c36
           obtain ⟨y456, hy456⟩ : ∃ y_ : List ByteArray, y_ = (([(⟨#[97, 98, 99]⟩ : ByteArray).extract ((ji33) : Int).toNat ((((ji33) + 1) % 256) : Int).toNat] : List ByteArray)) := ⟨_, rfl⟩
           replace H : (some ((wrap64 (a0_0)), x453001_1, y456, (wrap64 ((Int.tmod (wrap64 (a0_3)) 24) - 1)), (wrap64 ((Int.tmod (wrap64 (a0_4)) 30) - 1)), ((⟨#[97, 98, 99]⟩ : ByteArray).extract ((ji2) : Int).toNat ((((ji2) + 1) % 256) : Int).toNat))) = some (r1, r2, r3, r4, r5, r6) := by first | (rw [hy456]; with_reducible exact H) | (have H2_ := (Option.bind_some _ _).symm.trans H; rw [hy456]; with_reducible exact H2_) | (have H2_ := (Option.bind_some _ _).symm.trans H; with_reducible exact H2_) | with_reducible exact H | (rw [hy456]; exact H) | exact H
           have Ny456 := Aside0.mk hy456
           clear hy456
           simp only [Option.some.injEq, Prod.mk.injEq] at H
           obtain ⟨rfl, rfl, rfl, rfl, rfl, rfl⟩ := H
           have hnb37 := NB450_451.out
           have hnc37 := NB451_450.out
           have hnb38 := NB450_452.out
           have hnc38 := NB452_450.out
           have hcz39_0 : wr.cell? ⟨gb450, 0, none⟩ = some (.int .u8 a0_0) := (blk_cell BK450.out 0).trans rfl
           have hcz39_1 : wr.cell? ⟨gb450, 1, none⟩ = some (.int .u8 a0_1) := (blk_cell BK450.out 1).trans rfl
           have hcz39_2 : wr.cell? ⟨gb450, 2, none⟩ = some (.int .u8 a0_2) := (blk_cell BK450.out 2).trans rfl
           have hcz39_3 : wr.cell? ⟨gb450, 3, none⟩ = some (.int .u8 a0_3) := (blk_cell BK450.out 3).trans rfl
           have hcz39_4 : wr.cell? ⟨gb450, 4, none⟩ = some (.int .u8 a0_4) := (blk_cell BK450.out 4).trans rfl
           have hfz39_0 := blk_frozen BK450.out 0
           have hfz39_1 := blk_frozen BK450.out 1
           have hfz39_2 := blk_frozen BK450.out 2
           have hfz39_3 := blk_frozen BK450.out 3
           have hfz39_4 := blk_frozen BK450.out 4
           go_wp2_with (first | ((with_reducible refine gate_dst (N := 73) rfl ?_); refine Kd.R_lit Kd.string _ 9 ?hg (N := 73) ?hd (xs := ([(⟨#[97, 98, 99]⟩ : ByteArray).extract ((ji33) : Int).toNat ((((ji33) + 1) % 256) : Int).toNat] : List ByteArray)) (inner := [.string ((⟨#[97, 98, 99]⟩ : ByteArray).extract ((ji33) : Int).toNat ((((ji33) + 1) % 256) : Int).toNat)]) (ok := fun _ => True) (okp := fun _ => True) ?hr ?hp (fun _ hk => hk) trivial (Below.refl _ _) (Nat.le_refl _) zb35 ?_; (case hd => rfl); (case hg => rfl); (case hr => first | (go_simp; done) | (go_simp; rfl)); (case hp => exact (Reps.one (show Kd.M Kd.string _ _ _ ((⟨#[97, 98, 99]⟩ : ByteArray).extract ((ji33) : Int).toNat ((((ji33) + 1) % 256) : Int).toNat) [.string ((⟨#[97, 98, 99]⟩ : ByteArray).extract ((ji33) : Int).toNat ((((ji33) + 1) % 256) : Int).toNat)] from rfl) (Reps.none _ _))); intro v457 w40 ho41 hb hg_ hnew_; clear hg_ hnew_; (first | rw [← Ny456.out] at ho41 | (simp only [Int.reduceToNat] at ho41; rw [← Ny456.out] at ho41)); have n0_ := Aside0.mk (Kd.R_below (by (with_reducible repeat (first | apply Kd.R_alloc | apply Kd.R_drewN | apply Kd.R_drew)); exact HO_453001.out) hb); have n1_ := Aside0.mk (Kd.R_lower ho41 (below_size zb18)); have n2_ := Aside0.mk (blk_below (g := gb450) (o := .cells #[.int .u8 a0_0, .int .u8 a0_1, .int .u8 a0_2, .int .u8 a0_3, .int .u8 a0_4] 48 (0, 0)) zb27 hb); have n3_ := Aside0.mk (blk_below (g := gb451) (o := .cells #[.int .i64 0, .slice none 0 0, .slice none 0 0, .int .i64 0, .int .i64 0, .string (⟨#[]⟩ : ByteArray)] 43 (0, 0)) zb33 hb); have n4_ := Aside0.mk (blk_below (g := gb452) (o := .cells #[.int .i64 (wrap64 (a0_0)), u453001, .slice none 0 0, .int .i64 (wrap64 ((Int.tmod (wrap64 (a0_3)) 24) - 1)), .int .i64 (wrap64 ((Int.tmod (wrap64 (a0_4)) 30) - 1)), .string ((⟨#[97, 98, 99]⟩ : ByteArray).extract ((ji2) : Int).toNat ((((ji2) + 1) % 256) : Int).toNat)] 43 (0, 0)) (by (with_reducible repeat (first | refine blk_drewN ?_ _ | refine blk_drew ?_ | refine blk_alloc ?_ _)); exact BK452.out) hb); have n5_ := Aside0.mk (below_step zb18 hb); clear HO_453001; clear BK450; clear BK451; clear BK452; clear HB; have HO_453001 := n0_; have HO458 := n1_; have BK450 := n2_; have BK451 := n3_; have BK452 := n4_; have HB := n5_; clear n0_ n1_ n2_ n3_ n4_ n5_; clear hb ho41; obtain ⟨Ao42, co42, eo42⟩ := Kd.R_slice HO458.out; subst eo42; have hnb43 := NB452_451.out; have hnc43 := NB451_452.out; have hcz44_0 : w40.cell? ⟨gb452, 0, none⟩ = some (.int .i64 (wrap64 (a0_0))) := (blk_cell BK452.out 0).trans rfl; have hcz44_1 : w40.cell? ⟨gb452, 1, none⟩ = some (u453001) := (blk_cell BK452.out 1).trans rfl; have hcz44_2 : w40.cell? ⟨gb452, 2, none⟩ = some (.slice none 0 0) := (blk_cell BK452.out 2).trans rfl; have hcz44_3 : w40.cell? ⟨gb452, 3, none⟩ = some (.int .i64 (wrap64 ((Int.tmod (wrap64 (a0_3)) 24) - 1))) := (blk_cell BK452.out 3).trans rfl; have hcz44_4 : w40.cell? ⟨gb452, 4, none⟩ = some (.int .i64 (wrap64 ((Int.tmod (wrap64 (a0_4)) 30) - 1))) := (blk_cell BK452.out 4).trans rfl; have hcz44_5 : w40.cell? ⟨gb452, 5, none⟩ = some (.string ((⟨#[97, 98, 99]⟩ : ByteArray).extract ((ji2) : Int).toNat ((((ji2) + 1) % 256) : Int).toNat)) := (blk_cell BK452.out 5).trans rfl; have hfz44_0 := blk_frozen BK452.out 0; have hfz44_1 := blk_frozen BK452.out 1; have hfz44_2 := blk_frozen BK452.out 2; have hfz44_3 := blk_frozen BK452.out 3; have hfz44_4 := blk_frozen BK452.out 4; have hfz44_5 := blk_frozen BK452.out 5; have hcz45_0 : w40.cell? ⟨gb451, 0, none⟩ = some (.int .i64 0) := (blk_cell BK451.out 0).trans rfl; have hcz45_1 : w40.cell? ⟨gb451, 1, none⟩ = some (.slice none 0 0) := (blk_cell BK451.out 1).trans rfl; have hcz45_2 : w40.cell? ⟨gb451, 2, none⟩ = some (.slice none 0 0) := (blk_cell BK451.out 2).trans rfl; have hcz45_3 : w40.cell? ⟨gb451, 3, none⟩ = some (.int .i64 0) := (blk_cell BK451.out 3).trans rfl; have hcz45_4 : w40.cell? ⟨gb451, 4, none⟩ = some (.int .i64 0) := (blk_cell BK451.out 4).trans rfl; have hcz45_5 : w40.cell? ⟨gb451, 5, none⟩ = some (.string (⟨#[]⟩ : ByteArray)) := (blk_cell BK451.out 5).trans rfl; have hfz45_0 := blk_frozen BK451.out 0; have hfz45_1 := blk_frozen BK451.out 1; have hfz45_2 := blk_frozen BK451.out 2; have hfz45_3 := blk_frozen BK451.out 3; have hfz45_4 := blk_frozen BK451.out 4; have hfz45_5 := blk_frozen BK451.out 5; obtain ⟨Ao46, co46, eo46⟩ := Kd.R_slice HO_453001.out; subst eo46))
           refine bodyPost_ret (results_cell_row rfl _ _ gb451 43 #[.int .i64 (wrap64 (a0_0)), .slice Ao46 x453001_1.length co46, .slice Ao42 y456.length co42, .int .i64 (wrap64 ((Int.tmod (wrap64 (a0_3)) 24) - 1)), .int .i64 (wrap64 ((Int.tmod (wrap64 (a0_4)) 30) - 1)), .string ((⟨#[97, 98, 99]⟩ : ByteArray).extract ((ji2) : Int).toNat ((((ji2) + 1) % 256) : Int).toNat)] (0, 0) _ rfl (by (with_reducible repeat (first | refine blk_drewN ?_ _ | refine blk_drew ?_ | refine blk_alloc ?_ _)); refine blk_put (cs := #[.int .i64 (wrap64 (a0_0)), .slice Ao46 x453001_1.length co46, .slice Ao42 y456.length co42, .int .i64 (wrap64 ((Int.tmod (wrap64 (a0_3)) 24) - 1)), .int .i64 (wrap64 ((Int.tmod (wrap64 (a0_4)) 30) - 1)), .string (⟨#[]⟩ : ByteArray)]) ?_ 5 _ rfl; (with_reducible repeat (first | refine blk_drewN ?_ _ | refine blk_drew ?_ | refine blk_alloc ?_ _)); refine blk_put (cs := #[.int .i64 (wrap64 (a0_0)), .slice Ao46 x453001_1.length co46, .slice Ao42 y456.length co42, .int .i64 (wrap64 ((Int.tmod (wrap64 (a0_3)) 24) - 1)), .int .i64 0, .string (⟨#[]⟩ : ByteArray)]) ?_ 4 _ rfl; (with_reducible repeat (first | refine blk_drewN ?_ _ | refine blk_drew ?_ | refine blk_alloc ?_ _)); refine blk_put (cs := #[.int .i64 (wrap64 (a0_0)), .slice Ao46 x453001_1.length co46, .slice Ao42 y456.length co42, .int .i64 0, .int .i64 0, .string (⟨#[]⟩ : ByteArray)]) ?_ 3 _ rfl; (with_reducible repeat (first | refine blk_drewN ?_ _ | refine blk_drew ?_ | refine blk_alloc ?_ _)); refine blk_put (cs := #[.int .i64 (wrap64 (a0_0)), .slice Ao46 x453001_1.length co46, .slice none 0 0, .int .i64 0, .int .i64 0, .string (⟨#[]⟩ : ByteArray)]) ?_ 2 _ rfl; (with_reducible repeat (first | refine blk_drewN ?_ _ | refine blk_drew ?_ | refine blk_alloc ?_ _)); refine blk_put (cs := #[.int .i64 (wrap64 (a0_0)), .slice none 0 0, .slice none 0 0, .int .i64 0, .int .i64 0, .string (⟨#[]⟩ : ByteArray)]) ?_ 1 _ rfl; (with_reducible repeat (first | refine blk_drewN ?_ _ | refine blk_drew ?_ | refine blk_alloc ?_ _)); refine blk_put (cs := #[.int .i64 0, .slice none 0 0, .slice none 0 0, .int .i64 0, .int .i64 0, .string (⟨#[]⟩ : ByteArray)]) ?_ 0 _ rfl; (with_reducible repeat (first | refine blk_drewN ?_ _ | refine blk_drew ?_ | refine blk_alloc ?_ _)); refine blk_far ?_ NB451_452.out _; (with_reducible repeat (first | refine blk_drewN ?_ _ | refine blk_drew ?_ | refine blk_alloc ?_ _)); exact BK451.out) Tryz.underlying43 rfl zb5) rfl ?_
           exact ⟨_, _, by first | rfl | (simp [errW_none, errW_some, bne_nil_] <;> rfl) | (simp only [← hji2, ← hji33]; first | rfl | (simp [errW_none, errW_some, bne_nil_] <;> rfl)) | (simp [*, errW_none, errW_some] <;> rfl), by (with_reducible repeat (first | apply Kd.R_alloc | apply Kd.R_drewN | apply Kd.R_drew)); exact Kd.R_mono (Kd.R_far (p := ⟨gb451, 5, none⟩) (Kd.R_far (p := ⟨gb451, 4, none⟩) (Kd.R_far (p := ⟨gb451, 3, none⟩) (Kd.R_far (p := ⟨gb451, 2, none⟩) (Kd.R_far (p := ⟨gb451, 1, none⟩) (Kd.R_far (p := ⟨gb451, 0, none⟩) (Kd.R_far (p := ⟨gb452, 2, none⟩) (Kd.R_types (Kd.R_types HO_453001.out BK452.out zb25) BK451.out zb25) (fun _ hk => hk.1.2) (.slice Ao42 y456.length co42)) (fun _ hk => hk.2) (.int .i64 (wrap64 (a0_0)))) (fun _ hk => hk.2) (.slice Ao46 x453001_1.length co46)) (fun _ hk => hk.2) (.slice Ao42 y456.length co42)) (fun _ hk => hk.2) (.int .i64 (wrap64 ((Int.tmod (wrap64 (a0_3)) 24) - 1)))) (fun _ hk => hk.2) (.int .i64 (wrap64 ((Int.tmod (wrap64 (a0_4)) 30) - 1)))) (fun _ hk => hk.2) (.string ((⟨#[97, 98, 99]⟩ : ByteArray).extract ((ji2) : Int).toNat ((((ji2) + 1) % 256) : Int).toNat))) (fun _ hk => trivial), by (with_reducible repeat (first | apply Kd.R_alloc | apply Kd.R_drewN | apply Kd.R_drew)); exact Kd.R_mono (Kd.R_far (p := ⟨gb451, 5, none⟩) (Kd.R_far (p := ⟨gb451, 4, none⟩) (Kd.R_far (p := ⟨gb451, 3, none⟩) (Kd.R_far (p := ⟨gb451, 2, none⟩) (Kd.R_far (p := ⟨gb451, 1, none⟩) (Kd.R_far (p := ⟨gb451, 0, none⟩) (Kd.R_far (p := ⟨gb452, 2, none⟩) (Kd.R_types (Kd.R_types HO458.out BK452.out zb25) BK451.out zb25) (fun _ hk => hk.1.2) (.slice Ao42 y456.length co42)) (fun _ hk => hk.2) (.int .i64 (wrap64 (a0_0)))) (fun _ hk => hk.2) (.slice Ao46 x453001_1.length co46)) (fun _ hk => hk.2) (.slice Ao42 y456.length co42)) (fun _ hk => hk.2) (.int .i64 (wrap64 ((Int.tmod (wrap64 (a0_3)) 24) - 1)))) (fun _ hk => hk.2) (.int .i64 (wrap64 ((Int.tmod (wrap64 (a0_4)) 30) - 1)))) (fun _ hk => hk.2) (.string ((⟨#[97, 98, 99]⟩ : ByteArray).extract ((ji2) : Int).toNat ((((ji2) + 1) % 256) : Int).toNat))) (fun _ hk => trivial), zb18⟩
          ·rw [if_neg c36] at H
           exact absurd H zb35
         ·rw [if_neg c35] at H
          exact absurd H zb35
        ·rw [if_neg c34] at H
         exact absurd H zb35
       ·rw [if_neg c32] at H
        have c32b0 : ((Int.tmod a0_2 4) == 0) = false := beq_eq_false_iff_ne.mpr c32
        have c32b1 : ((Int.tmod a0_2 4) != 0) = true := bne_iff_ne.mpr c32
        simp only [Option.some.injEq, Prod.mk.injEq] at H
        obtain ⟨rfl, rfl, rfl, rfl, rfl, rfl⟩ := H
        have hnb47 := NB450_451.out
        have hnc47 := NB451_450.out
        have hnb48 := NB450_452.out
        have hnc48 := NB452_450.out
        have hcz49_0 : wr.cell? ⟨gb450, 0, none⟩ = some (.int .u8 a0_0) := (blk_cell BK450.out 0).trans rfl
        have hcz49_1 : wr.cell? ⟨gb450, 1, none⟩ = some (.int .u8 a0_1) := (blk_cell BK450.out 1).trans rfl
        have hcz49_2 : wr.cell? ⟨gb450, 2, none⟩ = some (.int .u8 a0_2) := (blk_cell BK450.out 2).trans rfl
        have hcz49_3 : wr.cell? ⟨gb450, 3, none⟩ = some (.int .u8 a0_3) := (blk_cell BK450.out 3).trans rfl
        have hcz49_4 : wr.cell? ⟨gb450, 4, none⟩ = some (.int .u8 a0_4) := (blk_cell BK450.out 4).trans rfl
        have hfz49_0 := blk_frozen BK450.out 0
        have hfz49_1 := blk_frozen BK450.out 1
        have hfz49_2 := blk_frozen BK450.out 2
        have hfz49_3 := blk_frozen BK450.out 3
        have hfz49_4 := blk_frozen BK450.out 4
        have hnb50 := NB452_451.out
        have hnc50 := NB451_452.out
        have hcz51_0 : wr.cell? ⟨gb452, 0, none⟩ = some (.int .i64 (wrap64 (a0_0))) := (blk_cell BK452.out 0).trans rfl
        have hcz51_1 : wr.cell? ⟨gb452, 1, none⟩ = some (u453001) := (blk_cell BK452.out 1).trans rfl
        have hcz51_2 : wr.cell? ⟨gb452, 2, none⟩ = some (.slice none 0 0) := (blk_cell BK452.out 2).trans rfl
        have hcz51_3 : wr.cell? ⟨gb452, 3, none⟩ = some (.int .i64 (wrap64 ((Int.tmod (wrap64 (a0_3)) 24) - 1))) := (blk_cell BK452.out 3).trans rfl
        have hcz51_4 : wr.cell? ⟨gb452, 4, none⟩ = some (.int .i64 (wrap64 ((Int.tmod (wrap64 (a0_4)) 30) - 1))) := (blk_cell BK452.out 4).trans rfl
        have hcz51_5 : wr.cell? ⟨gb452, 5, none⟩ = some (.string ((⟨#[97, 98, 99]⟩ : ByteArray).extract ((ji2) : Int).toNat ((((ji2) + 1) % 256) : Int).toNat)) := (blk_cell BK452.out 5).trans rfl
        have hfz51_0 := blk_frozen BK452.out 0
        have hfz51_1 := blk_frozen BK452.out 1
        have hfz51_2 := blk_frozen BK452.out 2
        have hfz51_3 := blk_frozen BK452.out 3
        have hfz51_4 := blk_frozen BK452.out 4
        have hfz51_5 := blk_frozen BK452.out 5
        have hcz52_0 : wr.cell? ⟨gb451, 0, none⟩ = some (.int .i64 0) := (blk_cell BK451.out 0).trans rfl
        have hcz52_1 : wr.cell? ⟨gb451, 1, none⟩ = some (.slice none 0 0) := (blk_cell BK451.out 1).trans rfl
        have hcz52_2 : wr.cell? ⟨gb451, 2, none⟩ = some (.slice none 0 0) := (blk_cell BK451.out 2).trans rfl
        have hcz52_3 : wr.cell? ⟨gb451, 3, none⟩ = some (.int .i64 0) := (blk_cell BK451.out 3).trans rfl
        have hcz52_4 : wr.cell? ⟨gb451, 4, none⟩ = some (.int .i64 0) := (blk_cell BK451.out 4).trans rfl
        have hcz52_5 : wr.cell? ⟨gb451, 5, none⟩ = some (.string (⟨#[]⟩ : ByteArray)) := (blk_cell BK451.out 5).trans rfl
        have hfz52_0 := blk_frozen BK451.out 0
        have hfz52_1 := blk_frozen BK451.out 1
        have hfz52_2 := blk_frozen BK451.out 2
        have hfz52_3 := blk_frozen BK451.out 3
        have hfz52_4 := blk_frozen BK451.out 4
        have hfz52_5 := blk_frozen BK451.out 5
        obtain ⟨Ao53, co53, eo53⟩ := Kd.R_slice HO_453001.out
        subst eo53
        go_wp2
        refine bodyPost_ret (results_cell_row rfl _ _ gb451 43 #[.int .i64 (wrap64 (a0_0)), .slice Ao53 x453001_1.length co53, .slice none 0 0, .int .i64 (wrap64 ((Int.tmod (wrap64 (a0_3)) 24) - 1)), .int .i64 (wrap64 ((Int.tmod (wrap64 (a0_4)) 30) - 1)), .string ((⟨#[97, 98, 99]⟩ : ByteArray).extract ((ji2) : Int).toNat ((((ji2) + 1) % 256) : Int).toNat)] (0, 0) _ rfl (by (with_reducible repeat (first | refine blk_drewN ?_ _ | refine blk_drew ?_ | refine blk_alloc ?_ _)); refine blk_put (cs := #[.int .i64 (wrap64 (a0_0)), .slice Ao53 x453001_1.length co53, .slice none 0 0, .int .i64 (wrap64 ((Int.tmod (wrap64 (a0_3)) 24) - 1)), .int .i64 (wrap64 ((Int.tmod (wrap64 (a0_4)) 30) - 1)), .string (⟨#[]⟩ : ByteArray)]) ?_ 5 _ rfl; (with_reducible repeat (first | refine blk_drewN ?_ _ | refine blk_drew ?_ | refine blk_alloc ?_ _)); refine blk_put (cs := #[.int .i64 (wrap64 (a0_0)), .slice Ao53 x453001_1.length co53, .slice none 0 0, .int .i64 (wrap64 ((Int.tmod (wrap64 (a0_3)) 24) - 1)), .int .i64 0, .string (⟨#[]⟩ : ByteArray)]) ?_ 4 _ rfl; (with_reducible repeat (first | refine blk_drewN ?_ _ | refine blk_drew ?_ | refine blk_alloc ?_ _)); refine blk_put (cs := #[.int .i64 (wrap64 (a0_0)), .slice Ao53 x453001_1.length co53, .slice none 0 0, .int .i64 0, .int .i64 0, .string (⟨#[]⟩ : ByteArray)]) ?_ 3 _ rfl; (with_reducible repeat (first | refine blk_drewN ?_ _ | refine blk_drew ?_ | refine blk_alloc ?_ _)); refine blk_put (cs := #[.int .i64 (wrap64 (a0_0)), .slice Ao53 x453001_1.length co53, .slice none 0 0, .int .i64 0, .int .i64 0, .string (⟨#[]⟩ : ByteArray)]) ?_ 2 _ rfl; (with_reducible repeat (first | refine blk_drewN ?_ _ | refine blk_drew ?_ | refine blk_alloc ?_ _)); refine blk_put (cs := #[.int .i64 (wrap64 (a0_0)), .slice none 0 0, .slice none 0 0, .int .i64 0, .int .i64 0, .string (⟨#[]⟩ : ByteArray)]) ?_ 1 _ rfl; (with_reducible repeat (first | refine blk_drewN ?_ _ | refine blk_drew ?_ | refine blk_alloc ?_ _)); refine blk_put (cs := #[.int .i64 0, .slice none 0 0, .slice none 0 0, .int .i64 0, .int .i64 0, .string (⟨#[]⟩ : ByteArray)]) ?_ 0 _ rfl; (with_reducible repeat (first | refine blk_drewN ?_ _ | refine blk_drew ?_ | refine blk_alloc ?_ _)); exact BK451.out) Tryz.underlying43 rfl zb5) rfl ?_
        exact ⟨_, _, by first | rfl | (simp [errW_none, errW_some, bne_nil_] <;> rfl) | (simp only [← hji2]; first | rfl | (simp [errW_none, errW_some, bne_nil_] <;> rfl)) | (simp [*, errW_none, errW_some] <;> rfl), by (with_reducible repeat (first | apply Kd.R_alloc | apply Kd.R_drewN | apply Kd.R_drew)); exact Kd.R_mono (Kd.R_far (p := ⟨gb451, 5, none⟩) (Kd.R_far (p := ⟨gb451, 4, none⟩) (Kd.R_far (p := ⟨gb451, 3, none⟩) (Kd.R_far (p := ⟨gb451, 2, none⟩) (Kd.R_far (p := ⟨gb451, 1, none⟩) (Kd.R_far (p := ⟨gb451, 0, none⟩) (Kd.R_types HO_453001.out BK451.out zb25) (fun _ hk => hk.2) (.int .i64 (wrap64 (a0_0)))) (fun _ hk => hk.2) (.slice Ao53 x453001_1.length co53)) (fun _ hk => hk.2) (.slice none 0 0)) (fun _ hk => hk.2) (.int .i64 (wrap64 ((Int.tmod (wrap64 (a0_3)) 24) - 1)))) (fun _ hk => hk.2) (.int .i64 (wrap64 ((Int.tmod (wrap64 (a0_4)) 30) - 1)))) (fun _ hk => hk.2) (.string ((⟨#[97, 98, 99]⟩ : ByteArray).extract ((ji2) : Int).toNat ((((ji2) + 1) % 256) : Int).toNat))) (fun _ hk => trivial), by first | exact Kd.R_nil _ _ _ _ _ | exact Kd.N_nil _ _ _ _ _ | exact Kd.V_nil _ _ _ _ _ | exact Kd.Q_nil _ _ _ _ _ | exact Kd.S_nil _ _ _ _ _, zb18⟩
   ·rw [if_neg c5] at H
    exact absurd H zb35
  ·rw [if_neg c4] at H
   exact absurd H zb35
 ·rw [if_neg c3] at H
  exact absurd H zb35

end Go.Proofs.YtfpbpakgajddnaaGreatDoor.P
/- VdA -/
namespace Go.Proofs.YtfpbpakgajddnaaGreatDoor.Pl
open Go Go.RowKit Go.Maps Go.Proofs.YtfpbpakgajddnaaGreatDoorW.PrintWords
set_option linter.unusedVariables false
set_option linter.unusedSimpArgs false
theorem tmodV (a b : Nat) : Int.tmod (a : Int) (b : Int) = ((a % b : Nat) : Int) := rfl
def dataB (k : Nat) : ByteArray := (⟨#[115, 116, 117, 118, 119, 120, 121, 122]⟩ : ByteArray).extract k (⟨#[115, 116, 117, 118, 119, 120, 121, 122]⟩ : ByteArray).size
theorem dataB_len : ∀ k : Fin 8, (dataB k.val).data.toList.length ≤ 8 := by decide
/-- What an act's blobs and names are like. -/
structure ActOk (ps : List (L × L)) (gs : List L) : Prop where
  few : ps.length ≤ 3
  gone : gs.length ≤ 1
  short : ∀ b ∈ ps, b.2.length ≤ 8
theorem act_l0 (a0 a1 a2 a3 a4 : Nat) (h1 : a1 < 256) (h2 : a2 < 256) (h3 : a3 < 256) (h4 : a4 < 256) (x0 x3 x4 : Int) (x5 : ByteArray) : ∀ (d k i : Nat) (acc : List (L × L)), i + d = a1 % 4 → d + 2 ≤ k → acc.length = i → (∀ b ∈ acc, b.2.length ≤ 8) →
    ∃ ps gs, P.broadsheetlaw04_act.l0 k (i : Int) (a0 : Int) (a1 : Int) (a2 : Int) (a3 : Int) (a4 : Int) x0 (acc.map toB) x3 x4 x5 = some (x0, ps.map toB, gs.map mkB, x3, x4, x5) ∧ ActOk ps gs := by
  have W1 := Lib.hid (wrap_nat a1 zb13)
  have W2 := Lib.hid (wrap_nat a2 zb13)
  have W3 := Lib.hid (wrap_nat a3 zb13)
  have W4 := Lib.hid (wrap_nat a4 zb13)
  have M1 := Lib.hid (show Int.tmod (a1 : Int) 4 = ((a1 % 4 : Nat) : Int) from tmodV a1 4)
  intro d
  induction d with
  | zero =>
    intro k i acc hi hk ha hb
    obtain ⟨k, rfl⟩ : ∃ j, k = j + 1 := ⟨k - 1, by omega⟩
    have M2 := Lib.hid (show Int.tmod (a2 : Int) 4 = ((a2 % 4 : Nat) : Int) from tmodV a2 4)
    have M4 := Lib.hid (show Int.tmod (a4 : Int) 3 = ((a4 % 3 : Nat) : Int) from tmodV a4 3)
    unfold P.broadsheetlaw04_act.l0
    rw [W1.out, M1.out, if_neg zb13, M2.out, M4.out]
    have hl : acc.length ≤ 3 := by omega
    split
    · rw [if_pos zb13, if_pos zb13, if_pos zb13]
      refine ⟨acc, [((⟨#[97, 98, 99]⟩ : ByteArray).extract (((a4 % 3 : Nat) : Int)).toNat ((((a4 % 3 : Nat) : Int) + 1) % 256).toNat).data.toList], ?_, hl, by simp, hb⟩
      rw [List.map_singleton, mkB_self]
    · exact ⟨acc, [], rfl, hl, by simp, hb⟩
  | succ d ih =>
    intro k i acc hi hk ha hb
    obtain ⟨k, rfl⟩ : ∃ j, k = j + 1 := ⟨k - 1, by omega⟩
    have hi3 : i ≤ 3 := by omega
    have hm : i * a4 ≤ 3 * 255 := Nat.mul_le_mul hi3 zb13
    obtain ⟨q, hq⟩ : ∃ q, q = i * a4 := ⟨_, rfl⟩
    rw [← hq] at hm
    have E1 := Lib.hid (show wrap64 ((i : Int) * (a4 : Int)) = ((q : Nat) : Int) by
      rw [show (i : Int) * (a4 : Int) = ((i * a4 : Nat) : Int) by push_cast; rfl, ← hq]
      exact wrap_nat _ zb13)
    clear hq
    have E2 := Lib.hid (show wrap64 ((a2 : Int) + (q : Int)) = ((a2 + q : Nat) : Int) by
      rw [show (a2 : Int) + (q : Int) = ((a2 + q : Nat) : Int) by push_cast; rfl]
      exact wrap_nat _ zb13)
    have E3 := Lib.hid (show Int.tmod ((a2 + q : Nat) : Int) 3 = (((a2 + q) % 3 : Nat) : Int) from tmodV (a2 + q) 3)
    have hr := Nat.mod_lt (a2 + q) (show 0 < 3 by decide)
    generalize (a2 + q) % 3 = r at *
    have E4 := Lib.hid (show wrap64 ((r : Int) + 1) = ((r + 1 : Nat) : Int) by
      rw [show (r : Int) + 1 = ((r + 1 : Nat) : Int) by push_cast; rfl]
      exact wrap_nat _ zb13)
    have E5 := Lib.hid (show Int.tmod (a3 : Int) 8 = ((a3 % 8 : Nat) : Int) from tmodV a3 8)
    have hd := dataB_len ⟨a3 % 8, Nat.mod_lt _ zb25⟩
    have hs := Nat.mod_lt a3 (show 0 < 8 by decide)
    simp only at hd
    generalize a3 % 8 = s at *
    have E6 := Lib.hid (show wrap64 ((i : Int) + 1) = ((i + 1 : Nat) : Int) by
      rw [show (i : Int) + 1 = ((i + 1 : Nat) : Int) by omega]
      exact wrap_nat _ zb13)
    unfold P.broadsheetlaw04_act.l0
    rw [W1.out, M1.out, if_pos zb13, W2.out, W3.out, W4.out, E1.out, E2.out, E3.out, E4.out, E5.out, E6.out]
    rw [if_pos zb13, if_pos zb13, if_pos zb13, if_pos zb13, if_pos zb13, if_pos (by rw [List.length_map]; omega)]
    have key := ih k (i + 1) (acc ++ [(((⟨#[97, 98, 99]⟩ : ByteArray).extract ((r : Int)).toNat (((r + 1 : Nat) : Int)).toNat).data.toList, (dataB ((s : Int)).toNat).data.toList)]) zb13 zb13 (by rw [List.length_append, List.length_singleton]; omega) (fun b hm => by
      rcases List.mem_append.1 hm with h | h
      · exact hb b h
      · rw [List.mem_singleton.1 h]
        exact hd)
    rw [List.map_append, List.map_singleton] at key
    have et : toB (((⟨#[97, 98, 99]⟩ : ByteArray).extract ((r : Int)).toNat (((r + 1 : Nat) : Int)).toNat).data.toList, (dataB ((s : Int)).toNat).data.toList) = (⟨(⟨#[97, 98, 99]⟩ : ByteArray).extract ((r : Int)).toNat (((r + 1 : Nat) : Int)).toNat, dataB ((s : Int)).toNat⟩ : Bw) := by
      unfold toB
      simp only [mkB_self]
    rw [et] at key
    exact key
theorem act_f (a0 a1 a2 a3 a4 : Nat) (h1 : a1 < 256) (h2 : a2 < 256) (h3 : a3 < 256) (h4 : a4 < 256) : ∃ r1 ps gs r4 r5 r6, P.broadsheetlaw04_act.f 10 (a0 : Int) (a1 : Int) (a2 : Int) (a3 : Int) (a4 : Int) = some (r1, ps.map toB, gs.map mkB, r4, r5, r6) ∧ ActOk ps gs := by
  unfold P.broadsheetlaw04_act.f
  rw [show Int.tmod (a1 : Int) 3 = ((a1 % 3 : Nat) : Int) from tmodV a1 3, if_pos zb13, if_pos zb13, if_pos zb13]
  obtain ⟨ps, gs, h, ho⟩ := act_l0 a0 a1 a2 a3 a4 h1 h2 h3 h4 _ _ _ _ (a1 % 4) 10 0 [] zb13 zb13 rfl (fun b hb => by simp at hb)
  exact ⟨_, ps, gs, _, _, _, h, ho⟩
end Go.Proofs.YtfpbpakgajddnaaGreatDoor.Pl
/- VaK -/
namespace Go.Proofs.YtfpbpakgajddnaaGreatDoor.Pl
open Go
set_option linter.unusedVariables false
set_option linter.unusedSimpArgs false
section
variable {C K n n0 i : Nat} {D D' : List (RowM × L)} {m : Mach} {x y s : L} {c : Codec}
theorem spend_pw {p : Int} (h : p = -1) : spend p = -1 := by rw [h]; rfl
theorem create_pw (h : m.power = -1) : (create m x).2.power = -1 := by
  unfold create
  (repeat' split) <;> first | exact h | exact spend_pw h
theorem write_pw (h : m.power = -1) : (write m x s).2.power = -1 := by
  unfold write
  (repeat' split) <;> first | exact h | exact spend_pw h
theorem sync_pw (h : m.power = -1) : (sync m x).2.power = -1 := by
  unfold sync
  (repeat' split) <;> first | exact h | exact spend_pw h
theorem rename_pw (h : m.power = -1) : (rename m x y).2.power = -1 := by
  unfold rename
  (repeat' split) <;> first | exact h | exact spend_pw h
theorem syncDir_pw (h : m.power = -1) : (syncDir m).2.power = -1 ∧ (syncDir m).1 = 0 := by
  unfold syncDir
  rw [if_neg zb13]
  exact ⟨spend_pw h, rfl⟩
theorem put3_pw (h : m.power = -1) : (put3 m x s).2.power = -1 := by
  unfold put3
  split
  · split
    · exact sync_pw (write_pw (create_pw h))
    · exact write_pw (create_pw h)
  · exact create_pw h
theorem doPuts_pw (n : Nat) : ∀ (ps : List L) (i : Nat) {m : Mach}, m.power = -1 → (doPuts c n i ps m).2.power = -1
  | [], _, _, h => h
  | s :: r, i, m, h => by
    unfold doPuts
    split
    · exact doPuts_pw n r (i + 1) (put3_pw h)
    · exact put3_pw h
theorem stage_pw (n : Nat) (ps : List L) (lines : L) (h : m.power = -1) : (stage c n ps lines m).2.power = -1 := by
  have h1 := doPuts_pw (c := c) n ps 0 h
  unfold stage
  split
  · split
    · split
      · exact rename_pw (syncDir_pw (put3_pw h1)).1
      · exact (syncDir_pw (put3_pw h1)).1
    · exact put3_pw h1
  · exact h1
theorem commit_pw (hc : c.Names) (ps : List L) (hg : Good C K m) (hs : Safe c n0 D m) (hD : Fits c (n0 + 1) D D' ps) (hp : m.power = -1) :
    ((commitM c n0 D D' ps m).2.1 = false → Safe c n0 D (commitM c n0 D D' ps m).2.2) ∧ ((commitM c n0 D D' ps m).2.1 = true → Safe c (n0 + 1) D' (commitM c n0 D D' ps m).2.2) ∧ (commitM c n0 D D' ps m).2.2.power = -1 := by
  obtain ⟨h1, h2, _⟩ := stage_made (D := D) (D' := D') hc ps (c.print (n0 + 1) (D'.map (·.1))) hg.inv hs (Nat.succ_pos n0) rfl hD
  have h3 := stage_pw (c := c) (n0 + 1) ps (c.print (n0 + 1) (D'.map (·.1))) hp
  have h4 := Good.stage c (n0 + 1) ps (c.print (n0 + 1) (D'.map (·.1))) hg
  unfold commitM
  generalize stage c (n0 + 1) ps (c.print (n0 + 1) (D'.map (·.1))) m = st at *
  have h5 := syncDir_pw h3
  by_cases e1 : st.1 = 0
  · rw [if_pos e1, if_pos h5.2]
    have he := h2 e1
    rcases he.syncDir with ⟨e2, s2⟩ | ⟨e2, s2⟩
    · exact ⟨fun h => (by cases h), fun _ => s2.sweep, (sweep_full (h4.syncDir).inv h5.1 _).2⟩
    · exact absurd h5.2 e2
  · rw [if_neg e1]
    exact ⟨fun _ => (h1 e1).sweep, fun h => (by cases h), (sweep_full h4.inv h3 _).2⟩
/-- What a vault is like behind i commits. -/
structure HeldV (i n : Nat) (D : List (RowM × L)) (m : Mach) : Prop where
  fine : Fine (vm n D)
  bulk : bulk (vm n D).rows ≤ 282 * i
  rise : Rising D
  own : Own cdc n D
  safe : Safe cdc n D m
  good : Good (200 * i) (5 * i) m
theorem HeldV.len (h : HeldV i n D m) : D.length ≤ 282 * i := by
  have h1 := bulk_len (vm n D).rows
  have h2 := h.bulk
  have h3 : (vm n D).rows.length = D.length := List.length_map _
  omega
theorem HeldV.lines (h : HeldV i n D m) : (cdc.print n (D.map (·.1))).length ≤ 282 * i + 60 := by
  have h1 := print_len h.fine
  have h2 := h.bulk
  exact Nat.le_trans h1 zb13
theorem HeldV.back (h : HeldV i n D m) (hi : i ≤ 100) : cdc.parse (cdc.print n (D.map (·.1))) = some (n, D.map (·.1)) := h.fine.back (Nat.le_trans h.lines zb13)
theorem HeldV.fresh (room : Int) (h0 : 0 ≤ room) (h1 : room ≤ 4194304) : HeldV 0 0 [] (Pl.fresh room) :=
  ⟨Fine.empty, by decide, List.Pairwise.nil, fun p hp => by simp at hp, fun j => ⟨fun h => absurd h zb25, fun _ => ⟨fun p hp => by simp [Pl.fresh, after] at hp, rfl⟩, fun p hp => by simp at hp⟩, Good.fresh room h0 h1⟩
theorem next_rows (ps : List (L × L)) (gs : List L) : vm (n + 1) (nextD cdc (n + 1) ps gs D) = ⟨n + 1, nextR cdc (n + 1) ps gs (vm n D).rows⟩ := by
  unfold vm
  rw [nextD_rows]
/-- A commit: whatever its power was. -/
theorem HeldV.commit {ps : List (L × L)} {gs : List L} (h : HeldV i n D m) (hi : i ≤ 14) (h3 : ps.length ≤ 3) (h8 : ∀ b ∈ ps, b.2.length ≤ 8) (hz : checkI (n + 1) ps = 0) (m' : Mach) (hg : Good (200 * i) (5 * i) m') (hm : m' = m ∨ ∃ k, m' = limit m k) :
    commitR cdc (vm n D) ps gs m' = ((commitM cdc n D (nextD cdc (n + 1) ps gs D) (ps.map (·.2)) m').1, (if (commitM cdc n D (nextD cdc (n + 1) ps gs D) (ps.map (·.2)) m').2.1 = true then vm (n + 1) (nextD cdc (n + 1) ps gs D) else vm n D), (commitM cdc n D (nextD cdc (n + 1) ps gs D) (ps.map (·.2)) m').2.2) ∧
    Safe cdc n D m' ∧ Fits cdc (n + 1) D (nextD cdc (n + 1) ps gs D) (ps.map (·.2)) ∧ Good (200 * (i + 1)) (5 * (i + 1)) (commitR cdc (vm n D) ps gs m').2.2 ∧
    Fine (vm (n + 1) (nextD cdc (n + 1) ps gs D)) ∧ Pl.bulk (vm (n + 1) (nextD cdc (n + 1) ps gs D)).rows ≤ 282 * (i + 1) ∧ Rising (nextD cdc (n + 1) ps gs D) ∧ Own cdc (n + 1) (nextD cdc (n + 1) ps gs D) := by
  have hsafe : Safe cdc n D m' := by
    rcases hm with rfl | ⟨k, rfl⟩
    · exact h.safe
    · exact h.safe.limit k
  obtain ⟨f1, f2⟩ := fits_next cdc_names cdc_inj h.own ps gs
  have hgc := Good.commitR cdc (vm n D) ps gs hg
  have hb := h.bulk
  have hrn : (vm n D).n = n := rfl
  obtain ⟨c1, c2, c3⟩ := commitR_good cdc (vm n D) ps gs m' hz
  have nf := next_fine gs h.fine c1 (fun b hb2 => ⟨c2 b hb2, by have := h8 b hb2; omega⟩) zb13
  rw [hrn] at nf c3
  refine ⟨?_, hsafe, f1, hgc.mono zb13 zb13, ?_, ?_, rising_next h.rise, f2⟩
  · rw [c3]
    have e : nextR cdc (n + 1) ps gs (vm n D).rows = (nextD cdc (n + 1) ps gs D).map (·.1) := (nextD_rows cdc (n + 1) ps gs D).symm
    rw [e]
    exact commitV_M cdc n D _ _ m'
  · rw [next_rows]
    exact nf.1
  · rw [next_rows]
    have := nf.2
    show Pl.bulk (nextR cdc (n + 1) ps gs (vm n D).rows) ≤ _
    omega
/-- A commit with endless power. -/
theorem HeldV.step {ps : List (L × L)} {gs : List L} (h : HeldV i n D m) (hp : m.power = -1) (hi : i ≤ 14) (h3 : ps.length ≤ 3) (h8 : ∀ b ∈ ps, b.2.length ≤ 8) :
    ∃ n' D', (commitR cdc (vm n D) ps gs m).2.1 = vm n' D' ∧ HeldV (i + 1) n' D' (commitR cdc (vm n D) ps gs m).2.2 ∧ (commitR cdc (vm n D) ps gs m).2.2.power = -1 := by
  have hb := h.bulk
  by_cases hz : checkI (n + 1) ps = 0
  · obtain ⟨e, _, f1, g1, f2, f3, f4, f5⟩ := h.commit hi h3 h8 hz m h.good (.inl rfl) (gs := gs)
    have hcp := commit_pw cdc_names (ps.map (·.2)) h.good h.safe f1 hp
    rw [e] at g1 ⊢
    cases hq : (commitM cdc n D (nextD cdc (n + 1) ps gs D) (ps.map (·.2)) m).2.1 with
    | true => exact ⟨n + 1, _, rfl, ⟨f2, f3, f4, f5, hcp.2.1 hq, g1⟩, hcp.2.2⟩
    | false => exact ⟨n, D, rfl, ⟨h.fine, by omega, h.rise, h.own, hcp.1 hq, g1⟩, hcp.2.2⟩
  · rw [commitR_bad cdc (vm n D) ps gs m hz]
    exact ⟨n, D, rfl, ⟨h.fine, by omega, h.rise, h.own, h.safe, h.good.mono zb13 zb13⟩, hp⟩
end
section
variable {C K n n0 i : Nat} {D D' : List (RowM × L)} {m : Mach} {x y s : L} {c : Codec}
theorem man_len {k : Nat} (hi : Inv C m) (hs : Safe cdc n D m) (hl : (cdc.print n (D.map (·.1))).length ≤ k) : (read m manL).1.length ≤ k := by
  rcases Nat.eq_zero_or_pos n with h0 | h0
  · have h1 := (hs.now.noman h0).1
    have hf : m.find manL = none := by
      cases hq : m.find manL with
      | none => rfl
      | some k => exact absurd rfl (h1 _ (look_mem hq))
    unfold read
    rw [hf]
    exact Nat.zero_le _
  · rw [(hs.now.man h0).read hi]
    exact hl
/-- A vault that is told and lies safe on a plate: all that a walk wants of it. -/
structure Rest (n : Nat) (D : List (RowM × L)) (m : Mach) : Prop where
  fine : Fine (vm n D)
  bulk : bulk (vm n D).rows ≤ 5000
  rise : Rising D
  safe : Safe cdc n D m
  good : Good 10000 200 m
theorem Rest.len (h : Rest n D m) : D.length ≤ 5000 := by
  have h1 := bulk_len (vm n D).rows
  have h2 := h.bulk
  have h3 : (vm n D).rows.length = D.length := List.length_map _
  omega
theorem Rest.lines (h : Rest n D m) : (cdc.print n (D.map (·.1))).length ≤ 5060 := by
  have h1 := print_len h.fine
  have h2 := h.bulk
  exact Nat.le_trans h1 zb13
theorem Rest.man (h : Rest n D m) : (read m manL).1.length ≤ 90000 := Nat.le_trans (man_len h.good.inv h.safe h.lines) zb25
theorem Rest.back (h : Rest n D m) : cdc.parse (cdc.print n (D.map (·.1))) = some (n, D.map (·.1)) := h.fine.back (Nat.le_trans h.lines zb25)
theorem HeldV.rest (h : HeldV i n D m) (hi : i ≤ 14) : Rest n D m := ⟨h.fine, by have := h.bulk; omega, h.rise, h.safe, h.good.mono zb13 zb13⟩
/-- Opened with power: there it is. -/
theorem Rest.open (h : Rest n D m) (hp : m.power = -1) : ∃ M, openV cdc m = (0, some (vm n D), M) ∧ Safe cdc n D M ∧ Good 10400 200 M := by
  have h1 := open_full h.good.inv hp h.safe h.back
  have h2 := open_any h.good.inv h.safe h.back
  have h3 := Good.openV cdc h.good
  refine ⟨(openV cdc m).2.2, ?_, h2.2, h3.mono zb13 zb13⟩
  have e1 : (openV cdc m).1 = 0 := h1.1
  have e2 : (openV cdc m).2.1 = some (vm n D) := h1.2.1
  rw [← e1, ← e2]
end
end Go.Proofs.YtfpbpakgajddnaaGreatDoor.Pl
/- VvT -/
namespace Go.Proofs.YtfpbpakgajddnaaGreatDoor.Pl
open Go Go.RowKit Go.Maps Go.Proofs.YtfpbpakgajddnaaGreatDoorW.PrintWords
open Go.Proofs.YtfpbpakgajddnaaGreatDoor.O (Glob)
set_option linter.unusedVariables false
set_option linter.unusedSimpArgs false
/-- An act as small numbers. -/
structure BitV where
  what : Nat
  a : Nat
  b : Nat
  n : Nat
  m : Nat
def BitV.ok (x : BitV) : Prop := x.what < 256 ∧ x.a < 256 ∧ x.b < 256 ∧ x.n < 256 ∧ x.m < 256
def BitV.cells (x : BitV) : List Value := [.int .u8 (x.what : Int), .int .u8 (x.a : Int), .int .u8 (x.b : Int), .int .u8 (x.n : Int), .int .u8 (x.m : Int)]
def BitVRow (W : World) (A : Option Addr) (l : List BitV) : Prop := ∀ i x, l[i]? = some x → ∃ ad : Addr, A = some ad ∧ W.cell? (ad.add (i * 5)) = some (.int .u8 (x.what : Int)) ∧ W.cell? ⟨(ad.add (i * 5)).block, (ad.add (i * 5)).off + 1, none⟩ = some (.int .u8 (x.a : Int)) ∧ W.cell? ⟨(ad.add (i * 5)).block, (ad.add (i * 5)).off + 2, none⟩ = some (.int .u8 (x.b : Int)) ∧ W.cell? ⟨(ad.add (i * 5)).block, (ad.add (i * 5)).off + 3, none⟩ = some (.int .u8 (x.n : Int)) ∧ W.cell? ⟨(ad.add (i * 5)).block, (ad.add (i * 5)).off + 4, none⟩ = some (.int .u8 (x.m : Int))
theorem cell_bel {W W' : World} {a : Addr} {u : Value} (hb : Below W.heap.size W W') (h : W.cell? a = some u) : W'.cell? a = some u := (cell_block (hb.block _ (block_lt_of_cell h))).trans h
theorem BitVRow.below {W W' : World} {A : Option Addr} {l : List BitV} (h : BitVRow W A l) (hb : Below W.heap.size W W') : BitVRow W' A l := by
  intro i x hx
  obtain ⟨ad, e, c0, c1, c2, c3, c4⟩ := h i x hx
  exact ⟨ad, e, cell_bel hb c0, cell_bel hb c1, cell_bel hb c2, cell_bel hb c3, cell_bel hb c4⟩
/-- A row of the print's own, as it is read; where it lies. -/
theorem R_reads {α : Type} {d : Kd α} {e base : Nat} {w : World} {ok : Nat → Prop} {v : Value} {xs : List α} (h : d.R e w base ok v xs) (hK : ∀ x cs, d.M w base (fun k => ok k ∧ some k ≠ v.ownBlock) x cs → d.K w x cs) : ∃ A c, v = .slice A xs.length c ∧ xs.length ≤ c ∧ d.C w A xs.length xs ∧ ∀ ad, A = some ad → base ≤ ad.block ∧ ad.block < w.heap.size := by
  obtain ⟨_, inner, ho, hlen, hr⟩ := h
  obtain ⟨A, c, rfl, hc⟩ := own_reads_row ho (show Reps (d.K w) d.sz xs inner from ⟨hlen, fun j p hj => hK _ _ (hr j p hj)⟩) rfl
  refine ⟨A, c, rfl, row_cap ho, hc, fun ad e => ?_⟩
  subst e
  rcases ho.2 with ⟨h1, _⟩ | ⟨g, cap, cur, h1, hb, hg, _⟩
  · cases h1
  · injection h1 with e1
    rw [Option.some.inj e1]
    exact ⟨hb, blk_lt hg⟩
section
variable {w w' : World} {vb bp C K : Nat} {v : VM} {H : Nat → Prop} {m : Mach}
theorem act_calls (x : BitV) (hx : x.ok) : Calls Tryz.prog 18 #[.agg #[.int .u8 (x.what : Int), .int .u8 (x.a : Int), .int .u8 (x.b : Int), .int .u8 (x.n : Int), .int .u8 (x.m : Int)]] w fun e w' => ∃ A1 c1 A2 c2 ps gs r1 r4 r5 r6, e = .returned (.agg #[.int .i64 r1, .slice A1 (List.length ps) c1, .slice A2 (List.length gs) c2, .int .i64 r4, .int .i64 r5, .string r6]) ∧ ActOk ps gs ∧ Blobs w' A1 ps ∧ Strs w' A2 gs ∧ ps.length ≤ c1 ∧ gs.length ≤ c2 ∧ (∀ ad, A1 = some ad → w.heap.size ≤ ad.block ∧ ad.block < w'.heap.size) ∧ (∀ ad, A2 = some ad → w.heap.size ≤ ad.block ∧ ad.block < w'.heap.size) ∧ Below w.heap.size w w' := by
  obtain ⟨h0, h1, h2, h3, h4⟩ := hx
  obtain ⟨r1, ps, gs, r4, r5, r6, hf, ho⟩ := act_f x.what x.a x.b x.n x.m h1 h2 h3 h4
  refine (P.broadsheetlaw04_act.calls 10 _ _ _ _ _ r1 (ps.map toB) (gs.map mkB) r4 r5 r6 w hf).mono ?_
  rintro e w' ⟨v1, v2, rfl, hR1, hR2, hb⟩
  obtain ⟨A1, c1, rfl, k1, q1, l1⟩ := R_reads hR1 (fun x cs h => by obtain rfl := P.k28_openM h; exact P.k28_mk _ _)
  obtain ⟨A2, c2, rfl, k2, q2, l2⟩ := R_reads hR2 (fun x cs h => h)
  rw [List.length_map] at k1 q1
  rw [List.length_map] at k2 q2
  rw [List.length_map, List.length_map]
  exact ⟨A1, c1, A2, c2, ps, gs, r1, r4, r5, r6, rfl, ho, q1, q2, k1, k2, l1, l2, hb⟩
/-- Only blocks that are there. -/
theorem LV.tight (h : LV w vb bp v m H) : LV w vb bp v m (fun i => H i ∧ i < w.heap.size) := by
  obtain ⟨rv, F, hs⟩ := h
  have ht := hs.tight
  exact ⟨rv, _, ht.vp, ht.plate, ht.apart, fun i hi => ⟨hs.inF i hi.1, hi.2⟩, fun i hi => ⟨hs.inV i hi, hs.vp.lt hi⟩⟩
theorem Fr.strs {H' : Nat → Prop} {A : Option Addr} {l : List L} (h : Fr H w H' w') (hs : Strs w A l) (hA : ∀ ad, A = some ad → ¬ H ad.block ∧ ad.block < w.heap.size) : Strs w' A l := hs.move (fun ad e _ => h.tch.block _ (hA ad e).2 (hA ad e).1)
theorem Fr.blobs {H' : Nat → Prop} {A : Option Addr} {l : List (L × L)} (h : Fr H w H' w') (hs : Blobs w A l) (hA : ∀ ad, A = some ad → ¬ H ad.block ∧ ad.block < w.heap.size) : Blobs w' A l := hs.move (fun ad e _ => h.tch.block _ (hA ad e).2 (hA ad e).1)
end
def U8Row (W : World) (A : Option Addr) (l : List Nat) : Prop := ∀ (i k : Nat), l[i]? = some k → ∃ ad : Addr, A = some ad ∧ W.cell? (ad.add i) = some (.int .u8 (k : Int))
theorem U8Row.below {W W' : World} {A : Option Addr} {l : List Nat} (h : U8Row W A l) (hb : Below W.heap.size W W') : U8Row W' A l := by
  intro i k hk
  obtain ⟨ad, e, c0⟩ := h i k hk
  exact ⟨ad, e, cell_bel hb c0⟩
/-- A vault that lies on its plate alone; what was told of it keeps. -/
structure Lies (c : Nat) (n : Nat) (D : List (RowM × L)) (m : Mach) : Prop where
  fine : Fine (vm n D)
  bulk : bulk (vm n D).rows ≤ 5000
  rise : Rising D
  safe : Safe cdc n D m
  good : Good (3000 + 600 * c) 80 m
section
variable {n c : Nat} {D : List (RowM × L)} {m : Mach}
theorem Lies.rest (h : Lies c n D m) (hc : c ≤ 11) : Rest n D m := ⟨h.fine, h.bulk, h.rise, h.safe, h.good.mono zb13 zb13⟩
theorem Lies.limit (h : Lies c n D m) (k : Nat) : Lies c n D (limit m ((k : Int) % 4)) := ⟨h.fine, h.bulk, h.rise, h.safe.limit _, h.good.limit _ zb13⟩
theorem Lies.crash (h : Lies c n D m) (a b : Int) : Lies c n D (crash m a b) ∧ (Pl.crash m a b).power = -1 := ⟨⟨h.fine, h.bulk, h.rise, h.safe.crash a b, h.good.crash a b⟩, rfl⟩
theorem Lies.open (h : Lies c n D m) (hc : c ≤ 11) : ((openV cdc m).2.1 = some (vm n D) ∧ (openV cdc m).1 = 0 ∨ (openV cdc m).2.1 = none ∧ (openV cdc m).1 ≠ 0) ∧ Lies (c + 1) n D (openV cdc m).2.2 := by
  obtain ⟨h1, h2⟩ := open_any h.good.inv h.safe (h.rest hc).back
  exact ⟨h1, ⟨h.fine, h.bulk, h.rise, h2, (Good.openV cdc h.good).mono zb13 zb13⟩⟩
theorem HeldV.odd {i : Nat} (h : HeldV i n D m) (hi : i ≤ 12) (hp : m.power = -1) : Good 10000 100 m ∧ Good 10000 100 (create m [111, 100, 100]).2 ∧ Good 10000 100 (create (create m [111, 100, 100]).2 [111, 114, 112, 104, 97, 110]).2 ∧
    Lies 0 n D (syncDir (create (create m [111, 100, 100]).2 [111, 114, 112, 104, 97, 110]).2).2 ∧ (syncDir (create (create m [111, 100, 100]).2 [111, 114, 112, 104, 97, 110]).2).2.power = -1 := by
  have hb := h.bulk
  have g1 := h.good.create [111, 100, 100]
  have g2 := g1.create [111, 114, 112, 104, 97, 110]
  have s1 := h.safe.create h.good.inv (x := [111, 100, 100]) zb25
  have s2 := s1.create g1.inv (x := [111, 114, 112, 104, 97, 110]) zb25
  exact ⟨h.good.mono zb13 zb13, g1.mono zb13 zb13, g2.mono zb13 zb13, ⟨h.fine, by omega, h.rise, s2.syncDir, g2.syncDir.mono zb13 zb13⟩, (syncDir_pw (create_pw (create_pw hp))).1⟩
end
theorem strs_where {w : World} {base : Nat} {v : Value} {l : List L} (h : OwnStrs w base v l) : ∃ A c, v = .slice A l.length c ∧ l.length ≤ c ∧ Strs w A l ∧ ∀ ad, A = some ad → base ≤ ad.block ∧ ad.block < w.heap.size := by
  obtain ⟨A, c, rfl, k, s⟩ := textsV_row h
  refine ⟨A, c, rfl, k, s, fun ad e => ?_⟩
  subst e
  rcases h.2 with ⟨h1, _⟩ | ⟨g, cap, cur, h1, hb, hg, _⟩
  · cases h1
  · injection h1 with e1
    rw [Option.some.inj e1]
    exact ⟨hb, blk_lt hg⟩
theorem odd_lp {w : World} {bp : Nat} {m : Mach} {H : Nat → Prop} (h : LP w bp m H) (hg : Good 10000 100 m) : Calls Tryz.prog 10 #[.pointer (some ⟨bp, 0, none⟩), .string ⟨#[111, 100, 100]⟩] w fun e w' => e = .returned (.int .i64 (create m [111, 100, 100]).1) ∧ ∃ H', LP w' bp (create m [111, 100, 100]).2 H' ∧ Fr H w H' w' := create_lp (x := [111, 100, 100]) h hg zb13 zb35
theorem orphan_lp {w : World} {bp : Nat} {m : Mach} {H : Nat → Prop} (h : LP w bp m H) (hg : Good 10000 100 m) : Calls Tryz.prog 10 #[.pointer (some ⟨bp, 0, none⟩), .string ⟨#[111, 114, 112, 104, 97, 110]⟩] w fun e w' => e = .returned (.int .i64 (create m [111, 114, 112, 104, 97, 110]).1) ∧ ∃ H', LP w' bp (create m [111, 114, 112, 104, 97, 110]).2 H' ∧ Fr H w H' w' := create_lp (x := [111, 114, 112, 104, 97, 110]) h hg zb13 zb35
/-- The acts' loop: one round. -/
theorem act_round {w wr : World} {vb bp n i : Nat} {D : List (RowM × L)} {m : Mach} {H : Nat → Prop} {ps : List (L × L)} {gs : List L} {A1 A2 : Option Addr} {c1 c2 : Nat} (hh : HeldV i n D m) (hi : i ≤ 12) (hp : m.power = -1) (hl : LV wr vb bp (vm n D) m H) (hH : ∀ j, H j → w.heap.size ≤ j) (hb : Below w.heap.size w wr) (hG : Glob w) (ho : ActOk ps gs) (hput : Blobs wr A1 ps) (hgone : Strs wr A2 gs) (hc1 : ps.length ≤ c1) :
    Calls Tryz.prog 21 #[.pointer (some ⟨vb, 0, none⟩), .slice A1 ps.length c1, .slice A2 gs.length c2] wr fun e w' => ∃ z n' D' m' H', e = .returned (.int .i64 z) ∧ HeldV (i + 1) n' D' m' ∧ m'.power = -1 ∧ LV w' vb bp (vm n' D') m' H' ∧ (∀ j, H' j → w.heap.size ≤ j) ∧ Below w.heap.size w w' := by
  have hbk := hh.bulk
  have h3 := ho.few
  obtain ⟨n', D', e1, h1, h2⟩ := hh.step hp zb13 h3 ho.short (gs := gs)
  refine (commit_lv hl hh.fine zb13 hput hgone hc1 (fun b hb2 => by have := ho.short b hb2; omega) hh.good zb13 (fun W t => hG.below (hb.trans (t.below hb.size hH)))).mono ?_
  rintro e w' ⟨rfl, H', hf, hl'⟩
  rw [e1] at hl'
  exact ⟨_, n', D', _, H', rfl, h1, h2, hl', hf.low hb.size hH, hb.trans (hf.below hb.size hH)⟩
set_option maxRecDepth 100000 in
set_option maxHeartbeats 16000000 in
theorem again_calls (A0 A1 : Option Addr) (c0 c1 : Nat) (l0 : List BitV) (l1 : List Nat) (q : Nat) (w : World) (r0 : BitVRow w A0 l0) (k0 : ∀ x ∈ l0, x.ok) (r1 : U8Row w A1 l1) (k1 : ∀ k ∈ l1, k < 256) (hq : q < 256) (hG : Glob w) :
    Calls Tryz.prog 7 #[.slice A0 l0.length c0, .slice A1 l1.length c1, .int .u8 (q : Int)] w fun e w' => e = .returned (.bool true) ∧ Below w.heap.size w w' := by
  have HG := Lib.hid hG
  have R0 := Lib.hid r0
  have K0 := Lib.hid k0
  have R1 := Lib.hid r1
  have K1 := Lib.hid k1
  have HAW := Lib.hid (awake_law hG)
  have HNW := Lib.hid (fun W => new_lp 100000 W zb25 zb25)
  have HOP := Lib.hid (fun (W : World) (bp : Nat) (H : Nat → Prop) (hb : Below w.heap.size w W) (h : LP W bp (fresh 100000) H) => by
    have := open_lp h (Good.fresh 100000 zb25 zb25) zb25 (hG.below hb) (by show (read (fresh 100000) manL).1.length ≤ 90000; decide)
    rw [first_open] at this
    exact this)
  clear hG r0 k0 r1 k1
  go_enter Tryz.func7, Tryz.ntmps7
  go_wp2_with (first
    | (go_at_call 8; refine HAW.out.mono ?_; rintro e w0 ⟨rfl, hb0⟩; have HB0 := Lib.hid hb0; clear hb0)
    | (go_at_call 19; refine (HNW.out _).mono ?_; rintro e w1 ⟨bp, rfl, hb1, hp1⟩; have HB1 := Lib.hid (HB0.out.trans (hb1.mono HB0.out.size)); have HL1 := Lib.hid (show ∀ j, w0.heap.size ≤ j → w.heap.size ≤ j from fun j hj => Nat.le_trans HB0.out.size hj); have HP1 := Lib.hid hp1; clear hb1 hp1)
    | (go_at_call 20; refine (HOP.out _ _ _ HB1.out HP1.out).mono ?_; rintro e w2 ⟨pv, H2, rfl, hf2, vb, rfl, hv2⟩; have HB2 := Lib.hid (HB1.out.trans (hf2.below (b := w.heap.size) HB1.out.size HL1.out)); have HL2 := Lib.hid (hf2.low (b := w.heap.size) HB1.out.size HL1.out); have HV2 := Lib.hid hv2; clear hf2 hv2)
    | go_in)
  go_loopw [12, 13] (fun v12 _ wr => ∃ (i n : Nat) (D : List (RowM × L)) (m : Mach) (H : Nat → Prop), v12 = Value.int .i64 (i : Int) ∧ i ≤ 12 ∧ HeldV i n D m ∧ m.power = -1 ∧ LV wr vb bp (vm n D) m H ∧ (∀ j, H j → w.heap.size ≤ j) ∧ Below w.heap.size w wr)
    (fun v12 _ _ => 12 - (intOf v12).toNat)
  case atStart => exact ⟨0, 0, [], _, H2, rfl, by decide, HeldV.fresh 100000 zb25 zb25, rfl, HV2.out, HL2.out, HB2.out⟩
  case round =>
    obtain ⟨i, n, D, m, H, rfl, hi12, hh, hpw, hlv, hlow, hbw⟩ := hrel
    have HH := Lib.hid hh
    have HPW := Lib.hid hpw
    have HLV := Lib.hid hlv
    have HLO := Lib.hid hlow
    have HBW := Lib.hid hbw
    clear hh hpw hlv hlow hbw
    by_cases hgo : i < l0.length ∧ i < 12
    · obtain ⟨hlt, hlt2⟩ := hgo
      have hdec : ((i : Int) < (l0.length : Int)) := by omega
      have hdec2 : ((i : Int) < 12) := by omega
      have hin : 0 ≤ (i : Int) ∧ (i : Int) < (l0.length : Int) := by omega
      obtain ⟨x, hx⟩ : ∃ x, l0[i]? = some x := ⟨_, List.getElem?_eq_getElem hlt⟩
      obtain ⟨ad, rfl, q0, q1, q2, q3, q4⟩ := R0.out.below HBW.out i x hx
      have HAC := Lib.hid (act_calls (w := wr) x (K0.out x (List.mem_of_getElem? hx)))
      clear hx
      go_wp2_with (first
        | (go_at_call 18; refine HAC.out.mono ?_; rintro e w3 ⟨A3, c3, A4, c4, ps, gs, x1, x4, x5, x6, rfl, ho, hp3, hs4, hc3, hc4, _, _, hb3⟩; have hal := (Below.refl w3.heap.size w3).alloc (Nat.le_refl _) (.cells #[.int .i64 x1, .slice A3 ps.length c3, .slice A4 gs.length c4, .int .i64 x4, .int .i64 x5, .string x6] 43 (0, 0)); have hb3a := hb3.trans (hal.mono hb3.size); have HCM := Lib.hid (act_round (c2 := c4) HH.out hi12 HPW.out (HLV.out.still hb3a) HLO.out (HBW.out.trans (hb3a.mono HBW.out.size)) HG.out ho (Kd.C_below hp3 hal) (Kd.C_below hs4 hal) hc3); clear hal hb3a hb3 hp3 hs4 hc3 hc4 ho)
        | (go_at_call 21; refine HCM.out.mono ?_; rintro e w4 ⟨z4, n', D', m', H', rfl, f1, f2, f3, f4, f5⟩; have F1 := Lib.hid f1; have F2 := Lib.hid f2; have F3 := Lib.hid f3; have F4 := Lib.hid f4; have F5 := Lib.hid f5; clear f1 f2 f3 f4 f5)
        | go_in)
      go_roundw
      case rel => exact ⟨i + 1, n', D', m', H', by push_cast; rfl, by omega, F1.out, F2.out, F3.out, F4.out, F5.out⟩
      case measure =>
        show 12 - ((i : Int) + 1).toNat < 12 - (i : Int).toNat
        omega
    · have hz' : ¬ ((i : Int) < (l0.length : Int)) ∨ (((i : Int) < (l0.length : Int)) ∧ ¬ ((i : Int) < 12)) := by omega
      clear hgo
      have hrs := HH.out.rest zb13
      have HKP := Lib.hid (kept_law HLV.out.tight hrs.fine hrs.safe hrs.rise hrs.good.inv (by have := hrs.len; omega))
      have HLT := Lib.hid HLV.out.tight.plate
      obtain ⟨T, hT⟩ : ∃ T : Nat → Prop, T = fun j => H j ∧ j < wr.heap.size := ⟨_, rfl⟩
      rw [← hT] at HLT
      have TL := Lib.hid (show ∀ j, T j → w.heap.size ≤ j from fun j hj => by rw [hT] at hj; exact HLO.out j hj.1)
      have TS := Lib.hid (show ∀ j, T j → j < wr.heap.size from fun j hj => by rw [hT] at hj; exact hj.2)
      have HODD := Lib.hid (HH.out.odd hi12 HPW.out)
      have HLEN := Lib.hid hrs.len
      clear hrs hT
      rcases hz' with hz1 | ⟨hz1, hz2⟩
      all_goals
        go_wp2_with (first
          | (go_at_call 22; refine HKP.out.mono ?_; rintro e w5 ⟨v5, rfl, ho5, hb5⟩; obtain ⟨A5, c5, rfl, k5, s5, a5⟩ := strs_where ho5; have HS5 := Lib.hid s5; have HA5 := Lib.hid a5; have K5 := Lib.hid k5; have HS := Lib.hid hb5.size; have HB5 := Lib.hid (HBW.out.trans (hb5.mono HBW.out.size)); have HP5 := Lib.hid (HLT.out.still hb5); clear s5 a5 k5 ho5 hb5)
          | (go_at_call 10; refine (orphan_lp P6.out HODD.out.2.1).mono ?_; rintro e w7 ⟨he, H7, hp7, hf7⟩; generalize (create (create m [111, 100, 100]).2 [111, 114, 112, 104, 97, 110]).1 = z7 at he; subst he; have P7 := Lib.hid hp7; have F7 := Lib.hid (F6.out.trans hf7); clear hp7 hf7)
          | (go_at_call 10; refine (odd_lp HP5.out HODD.out.1).mono ?_; rintro e w6 ⟨he, H6, hp6, hf6⟩; generalize (create m [111, 100, 100]).1 = z6 at he; subst he; have P6 := Lib.hid hp6; have F6 := Lib.hid hf6; clear hp6 hf6)
          | (go_at_call 28; refine (syncDir_lp P7.out HODD.out.2.2.1).mono ?_; rintro e w7b ⟨he, H7b, hp7b, hf7b⟩; generalize (syncDir (create (create m [111, 100, 100]).2 [111, 114, 112, 104, 97, 110]).2).1 = z8 at he; subst he; have P7B := Lib.hid hp7b; have F7B := Lib.hid (F7.out.trans hf7b); clear hp7b hf7b)
          | go_in)
        go_loopw [16, 17, 18, 19, 20] (fun v16 _ _ _ _ wr2 => ∃ (j : Nat) (mj : Mach) (Hj : Nat → Prop), v16 = Value.int .i64 (j : Int) ∧ j ≤ 10 ∧ Lies j n D mj ∧ mj.power = -1 ∧ LP wr2 bp mj Hj ∧ Fr T w5 Hj wr2)
          (fun v16 _ _ _ _ _ => 10 - (intOf v16).toNat)
        case atStart => exact ⟨0, _, _, rfl, by decide, HODD.out.2.2.2.1, HODD.out.2.2.2.2, P7B.out, F7B.out⟩
        case round =>
          obtain ⟨j, mj, Hj, rfl, hj10, lj, pj, lpj, fj⟩ := hrel
          have LJ := Lib.hid lj
          have PJ := Lib.hid pj
          have LPJ := Lib.hid lpj
          have FJ := Lib.hid fj
          have BJ := Lib.hid (HB5.out.trans (fj.below (b := w.heap.size) HB5.out.size TL.out))
          clear lj pj lpj fj
          by_cases hgo2 : j < l1.length ∧ j < 10
          · obtain ⟨hlt3, hlt4⟩ := hgo2
            have hdec3 : ((j : Int) < (l1.length : Int)) := by omega
            have hdec4 : ((j : Int) < 10) := by omega
            have hin2 : 0 ≤ (j : Int) ∧ (j : Int) < (l1.length : Int) := by omega
            obtain ⟨k, hk⟩ : ∃ k, l1[j]? = some k := ⟨_, List.getElem?_eq_getElem hlt3⟩
            obtain ⟨ad, rfl, q0⟩ := R1.out.below BJ.out j k hk
            have hk2 := K1.out k (List.mem_of_getElem? hk)
            have hwk : wrap64 (k : Int) = (k : Int) := wrap_nat k zb13
            have hwq : wrap64 (q : Int) = (q : Int) := wrap_nat q zb13
            have htk : Int.tmod (k : Int) 4 = (k : Int) % 4 := Int.tmod_eq_emod_of_nonneg zb13
            have htq : Int.tmod (q : Int) 3 = (q : Int) % 3 := Int.tmod_eq_emod_of_nonneg zb13
            clear hk
            have lk := LJ.out.limit k
            have rk := lk.rest zb13
            have HLM := Lib.hid (limit_lp ((k : Int) % 4) LPJ.out)
            obtain ⟨M, hM⟩ : ∃ M, M = limit mj ((k : Int) % 4) := ⟨_, rfl⟩
            rw [← hM] at HLM lk rk
            clear hM
            have hov := lk.open zb13
            have HOV := Lib.hid (fun (W : World) (G : Nat → Prop) (hb : Below w.heap.size w W) (h : LP W bp M G) => open_lp h rk.good zb13 (HG.out.below hb) rk.man)
            obtain ⟨z9, hz9⟩ : ∃ z, z = (openV cdc M).1 := ⟨_, rfl⟩
            rw [← hz9] at HOV
            have hlc := hov.2.crash ((q : Int) % 3) 0
            have HLC := Lib.hid hlc
            have HSF := Lib.hid hov.2
            clear hlc
            rcases hov.1 with ⟨e1, e2⟩ | ⟨e1, e2⟩
            · rw [e1] at HOV
              generalize (openV cdc M).2.2 = M2 at HOV HLC HSF
              have HKF := Lib.hid (fun (W : World) (vb2 : Nat) (G : Nat → Prop) (h : LV W vb2 bp (vm n D) M2 G) => kept_law h LJ.out.fine HSF.out.safe LJ.out.rise HSF.out.good.inv (by have := HLEN.out; omega))
              clear hov e1 e2 lk rk hz9
              go_wp2_with (first
                | (go_at_call 23; refine HLM.out.mono ?_; rintro e w8 ⟨rfl, H8, hp8, hf8⟩; have P8 := Lib.hid hp8; have F8 := Lib.hid (FJ.out.trans hf8); have B8 := Lib.hid (HB5.out.trans ((FJ.out.trans hf8).below (b := w.heap.size) HB5.out.size TL.out)); clear hp8 hf8)
                | (go_at_call 20; refine (HOV.out _ _ B8.out P8.out).mono ?_; rintro e w9 ⟨pv9, H9, rfl, hf9, vb9, rfl, hv9⟩; have F9 := Lib.hid (F8.out.trans hf9); have V9 := Lib.hid hv9; clear hf9 hv9)
                | (go_at_call 22; refine (HKF.out _ _ _ V9.out).mono ?_; rintro e w10 ⟨v10, rfl, ho10, hb10⟩; obtain ⟨A10, c10, rfl, k10, s10, _⟩ := strs_where ho10; have S10 := Lib.hid (Kd.C_below (F9.out.strs HS5.out (fun ad e => ⟨fun h => by have h1 := (HA5.out ad e).1; have h2 := TS.out _ h; omega, (HA5.out ad e).2⟩)) hb10); have HSM := Lib.hid (sameV (tx D) (by rw [tx_len]; have := HLEN.out; omega) S10.out K5.out s10 k10); have V10 := Lib.hid (V9.out.still hb10); have F10 := Lib.hid (F9.out.trans (Fr.of_below hb10)); clear ho10 hb10 s10 k10)
                | (go_at_call 25; refine HSM.out.mono ?_; rintro e w11 ⟨rfl, hb11⟩; have P11 := Lib.hid (V10.out.still hb11).plate; have F11 := Lib.hid (F10.out.trans (Fr.of_below hb11)); clear hb11)
                | (go_at_call 24; refine (crash_lp ((q : Int) % 3) 0 P11.out HSF.out.good zb13).mono ?_; rintro e w12 ⟨rfl, H12, hp12, hf12⟩; have P12 := Lib.hid hp12; have F12 := Lib.hid (F11.out.trans hf12); clear hp12 hf12)
                | go_in)
              go_roundw
              case rel => exact ⟨j + 1, _, _, by push_cast; rfl, by omega, HLC.out.1, HLC.out.2, P12.out, F12.out⟩
              case measure =>
                show 10 - ((j : Int) + 1).toNat < 10 - (j : Int).toNat
                omega
            · rw [e1] at HOV
              generalize (openV cdc M).2.2 = M2 at HOV HLC HSF
              clear hov e1 e2 lk rk hz9
              go_wp2_with (first
                | (go_at_call 23; refine HLM.out.mono ?_; rintro e w8 ⟨rfl, H8, hp8, hf8⟩; have P8 := Lib.hid hp8; have F8 := Lib.hid (FJ.out.trans hf8); have B8 := Lib.hid (HB5.out.trans ((FJ.out.trans hf8).below (b := w.heap.size) HB5.out.size TL.out)); clear hp8 hf8)
                | (go_at_call 20; refine (HOV.out _ _ B8.out P8.out).mono ?_; rintro e w9 ⟨pv9, H9, rfl, hf9, rfl, hv9⟩; have F9 := Lib.hid (F8.out.trans hf9); have V9 := Lib.hid hv9; clear hf9 hv9)
                | (go_at_call 24; refine (crash_lp ((q : Int) % 3) 0 V9.out HSF.out.good zb13).mono ?_; rintro e w12 ⟨rfl, H12, hp12, hf12⟩; have P12 := Lib.hid hp12; have F12 := Lib.hid (F9.out.trans hf12); clear hp12 hf12)
                | go_in)
              go_roundw
              case rel => exact ⟨j + 1, _, _, by push_cast; rfl, by omega, HLC.out.1, HLC.out.2, P12.out, F12.out⟩
              case measure =>
                show 10 - ((j : Int) + 1).toNat < 10 - (j : Int).toNat
                omega
          · have hy' : ¬ ((j : Int) < (l1.length : Int)) ∨ (((j : Int) < (l1.length : Int)) ∧ ¬ ((j : Int) < 10)) := by omega
            clear hgo2
            obtain ⟨M, eo, so, go⟩ := (LJ.out.rest zb13).open PJ.out
            have HO2 := Lib.hid (show _ from open_lp LPJ.out (LJ.out.rest zb13).good zb13 (HG.out.below BJ.out) (LJ.out.rest zb13).man)
            rw [eo] at HO2
            have HKF := Lib.hid (fun (W : World) (vb2 : Nat) (G : Nat → Prop) (h : LV W vb2 bp (vm n D) M G) => kept_law h LJ.out.fine so LJ.out.rise go.inv (by have := HLEN.out; omega))
            clear so go eo
            rcases hy' with hy1 | ⟨hy1, hy2⟩
            all_goals
              go_wp2_with (first
                | (go_at_call 20; refine HO2.out.mono ?_; rintro e w8 ⟨pv8, H8, rfl, hf8, vb8, rfl, hv8⟩; have F8 := Lib.hid (FJ.out.trans hf8); have V8 := Lib.hid hv8; clear hf8 hv8)
                | (go_at_call 22; refine (HKF.out _ _ _ V8.out).mono ?_; rintro e w9 ⟨v9, rfl, ho9, hb9⟩; obtain ⟨A9, c9, rfl, k9, s9, _⟩ := strs_where ho9; have S9 := Lib.hid (Kd.C_below (F8.out.strs HS5.out (fun ad e => ⟨fun h => by have h1 := (HA5.out ad e).1; have h2 := TS.out _ h; omega, (HA5.out ad e).2⟩)) hb9); have HSM := Lib.hid (sameV (tx D) (by rw [tx_len]; have := HLEN.out; omega) S9.out K5.out s9 k9); have B9 := Lib.hid ((HB5.out.trans (F8.out.below (b := w.heap.size) HB5.out.size TL.out)).trans (hb9.mono (HB5.out.trans (F8.out.below (b := w.heap.size) HB5.out.size TL.out)).size)); clear ho9 hb9 s9 k9)
                | (go_at_call 25; refine HSM.out.mono ?_; rintro e w10 ⟨rfl, hb10⟩; have B10 := Lib.hid (B9.out.trans (hb10.mono B9.out.size)); clear hb10)
                | go_in)
              go_ret
              exact ⟨rfl, B10.out⟩
end Go.Proofs.YtfpbpakgajddnaaGreatDoor.Pl
/- CvA -/
namespace Go.Proofs.YtfpbpakgajddnaaGreatDoor.Pl
open Go Go.RowKit Go.Maps Go.Proofs.YtfpbpakgajddnaaGreatDoorW.PrintWords Go.ChangeShapes Go.WideShapes Go.Deep
set_option linter.unusedVariables false
set_option linter.unusedSimpArgs false
theorem u8_natV {n : Int} (h : (Lit.int .u8 n).wf = true) : ∃ k : Nat, k < 256 ∧ n = (k : Int) := by
  have h1 : IntKind.u8.min ≤ n ∧ n ≤ IntKind.u8.max := by simpa [Lit.wf] using h
  have m1 : IntKind.u8.min = 0 := by decide
  have m2 : IntKind.u8.max = 255 := by decide
  rw [m1, m2] at h1
  exact ⟨n.toNat, by omega, by omega⟩
set_option maxRecDepth 100000 in
/-- Five cells of an act. -/
theorem bit_cells {H : Type} {enc : TypeId × Value → H} {W : World} {fuel : Nat} {cs : List Value} {x : DataW H × List MemPlace} (h : DataW.trod enc Tryz.prog W 0 (fun _ => true) true fuel 48 cs = some x) (hl : cs.length = 5) :
    ∃ b : BitV, b.ok ∧ cs = b.cells := by
  have hc1 : Tryz.prog.cellsOf 5 = 1 := by kernel_rfl
  obtain ⟨xs, k, hk, hxy, _, hxl, hfld⟩ := DataW.trod_struct Tryz.underlying48 h
  match xs, hxl, cs, hl with
  | [y0, y1, y2, y3, y4], _, [v0, v1, v2, v3, v4], _ =>
    have g0 := hfld 0 _ rfl
    have g1 := hfld 1 _ rfl
    have g2 := hfld 2 _ rfl
    have g3 := hfld 3 _ rfl
    have g4 := hfld 4 _ rfl
    simp [hc1] at g0 g1 g2 g3 g4
    obtain ⟨n0, e0, _, w0⟩ := DataW.trod_int Tryz.underlying5 g0
    obtain ⟨n1, e1, _, w1⟩ := DataW.trod_int Tryz.underlying5 g1
    obtain ⟨n2, e2, _, w2⟩ := DataW.trod_int Tryz.underlying5 g2
    obtain ⟨n3, e3, _, w3⟩ := DataW.trod_int Tryz.underlying5 g3
    obtain ⟨n4, e4, _, w4⟩ := DataW.trod_int Tryz.underlying5 g4
    obtain ⟨k0, l0, rfl⟩ := u8_natV w0
    obtain ⟨k1, l1, rfl⟩ := u8_natV w1
    obtain ⟨k2, l2, rfl⟩ := u8_natV w2
    obtain ⟨k3, l3, rfl⟩ := u8_natV w3
    obtain ⟨k4, l4, rfl⟩ := u8_natV w4
    simp at e0 e1 e2 e3 e4
    refine ⟨⟨k0, k1, k2, k3, k4⟩, ⟨l0, l1, l2, l3, l4⟩, ?_⟩
    subst e0 e1 e2 e3 e4
    rfl
set_option maxRecDepth 100000 in
theorem bits_openV {H : Type} {enc : TypeId × Value → H} {W : World} {v : Value} {d : DataW H} {p : List MemPlace} (h : DataW.Trod enc Tryz.prog W 0 (fun _ => true) true 45 v d p) (hv : ∃ a len cap, v = .slice a len cap) :
    ∃ A c l, v = .slice A l.length c ∧ l.length ≤ c ∧ BitVRow W A l ∧ ∀ x ∈ l, BitV.ok x := by
  obtain ⟨a, len, cap, rfl⟩ := hv
  obtain ⟨fuel, hf⟩ := h
  rcases open_slice Tryz.underlying45 hf with ⟨hcs, _⟩ | ⟨a', len', cap', m, n, D, Pl, hcs, _, hl, hm, hmm, hx, hi⟩
  · simp [Value.cells] at hcs
    obtain ⟨rfl, rfl, rfl⟩ := hcs
    exact ⟨none, 0, [], rfl, Nat.le_refl _, fun i x hx => by simp at hx, fun x hx => by simp at hx⟩
  · simp [Value.cells] at hcs
    obtain ⟨rfl, rfl, rfl⟩ := hcs
    have hlm : len ≤ m := by rw [hmm]; split <;> omega
    have hc5 : Tryz.prog.cellsOf 48 = 5 := by kernel_rfl
    have key : ∀ i, ∃ x : BitV, i < len → x.ok ∧ ∀ j u, x.cells[j]? = some u → W.cell? (a'.add (i * 5 + j)) = some u := by
      intro i
      by_cases hil : i < len
      · obtain ⟨cs', h1, h2⟩ := hi i zb13
        rw [hc5] at h1
        obtain ⟨_, hlen, hcell⟩ := World.cells?_some h1
        obtain ⟨b, hb, rfl⟩ := bit_cells h2 hlen
        refine ⟨b, fun _ => ⟨hb, fun j u hu => ?_⟩⟩
        have hj : j < 5 := (List.getElem?_eq_some_iff.1 hu).1
        have q := hcell j zb13
        rw [Deep.add_add, hu] at q
        exact q
      · exact ⟨⟨0, 0, 0, 0, 0⟩, fun h => absurd h hil⟩
    obtain ⟨f, hf'⟩ := Classical.axiomOfChoice key
    have hat : ∀ i x, ((List.range len).map f)[i]? = some x → i < len ∧ x = f i := by
      intro i x hx
      rw [List.getElem?_map] at hx
      obtain ⟨j, hj, rfl⟩ := Option.map_eq_some_iff.1 hx
      have hjl : i < len := by
        have := (List.getElem?_eq_some_iff.1 hj).1
        simpa using this
      rw [List.getElem?_range hjl] at hj
      exact ⟨hjl, by rw [Option.some.inj hj]⟩
    refine ⟨some a', cap, (List.range len).map f, by simp, by simpa using hl, fun i x hx => ?_, fun x hx => ?_⟩
    · obtain ⟨hil, rfl⟩ := hat i x hx
      have hc := (hf' i hil).2
      refine ⟨a', rfl, hc 0 _ rfl, ?_, ?_, ?_, ?_⟩
      · rw [← add_field _ _ 1 zb13]; exact hc 1 _ rfl
      · rw [← add_field _ _ 2 zb13]; exact hc 2 _ rfl
      · rw [← add_field _ _ 3 zb13]; exact hc 3 _ rfl
      · rw [← add_field _ _ 4 zb13]; exact hc 4 _ rfl
    · obtain ⟨i, hi2⟩ := List.getElem?_of_mem hx
      obtain ⟨hil, rfl⟩ := hat i x hi2
      exact (hf' i hil).1
set_option maxRecDepth 100000 in
theorem u8s_openV {H : Type} {enc : TypeId × Value → H} {W : World} {v : Value} {d : DataW H} {p : List MemPlace} (h : DataW.Trod enc Tryz.prog W 0 (fun _ => true) true 63 v d p) (hv : ∃ a len cap, v = .slice a len cap) :
    ∃ A c l, v = .slice A l.length c ∧ l.length ≤ c ∧ U8Row W A l ∧ ∀ k ∈ l, k < 256 := by
  obtain ⟨a, len, cap, rfl⟩ := hv
  obtain ⟨fuel, hf⟩ := h
  rcases open_ints Tryz.underlying63 Tryz.underlying5 zb5 hf with ⟨hcs, _⟩ | ⟨x, l, c, zs, hcs, _, hl, hm, hz, _, hcell, hwz⟩
  · simp [Value.cells] at hcs
    obtain ⟨rfl, rfl, rfl⟩ := hcs
    exact ⟨none, 0, [], rfl, Nat.le_refl _, fun i k hk => by simp at hk, fun k hk => by simp at hk⟩
  · simp [Value.cells] at hcs
    obtain ⟨rfl, rfl, rfl⟩ := hcs
    have hz' : zs.length = cap := by simpa using hz
    have hlen : ((zs.take len).map Int.toNat).length = len := by rw [List.length_map, List.length_take]; omega
    refine ⟨some x, cap, (zs.take len).map Int.toNat, by rw [hlen], by rw [hlen]; exact hl, fun i k hk => ⟨x, rfl, ?_⟩, fun k hk => ?_⟩
    · have hil : i < len := by rw [← hlen]; exact (List.getElem?_eq_some_iff.1 hk).1
      rw [List.getElem?_map, List.getElem?_take_of_lt hil] at hk
      obtain ⟨y, hy, rfl⟩ := Option.map_eq_some_iff.1 hk
      have hc := hcell i zb13
      have hq : zs.getD i 0 = y := by rw [List.getD_eq_getElem?_getD, hy]; rfl
      rw [hq] at hc
      obtain ⟨k, hk2, rfl⟩ := u8_natV (hwz y (List.mem_of_getElem? hy))
      simpa using hc
    · obtain ⟨y, hy, rfl⟩ := List.mem_map.1 hk
      obtain ⟨k, hk2, rfl⟩ := u8_natV (hwz y (List.mem_of_mem_take hy))
      simpa using hk2
end Go.Proofs.YtfpbpakgajddnaaGreatDoor.Pl
/- CardW -/
namespace Go.Proofs.YtfpbpakgajddnaaGreatDoor.Cg
open Go.RowKit Go.Proofs.YtfpbpakgajddnaaGreatDoor.P Go.Proofs.YtfpbpakgajddnaaGreatDoorW.PrintWords Go.Proofs.YtfpbpakgajddnaaGreatDoorW.PrintLast Go.Proofs.YtfpbpakgajddnaaGreatDoor.O
open Go.ChangeShapes Go.WideShapes Go.Deep
set_option linter.unusedVariables false
/-- The plain wrap, with a condition of one's own and the world's shape. -/
theorem wrapS {H : Type} {enc : TypeId × Value → H} {a : Assume} {C : Checked} {os : Os} {f : FuncId} {fn : Func} {s : ChangeSpec} {conds : List PathCond} {apart fresh handsOn again : Bool} {X : World → Array Value → Prop}
    (hX : ∀ (w w' : World) (args : Array Value), w.heap = w'.heap → X w args → X w' args)
    (own : ownKnob C.prog.godebug = none) (started : os.Started) (noInit : C.prog.inits.idxOf? f = none) (hfn : C.prog.funcs[f]? = some fn)
    (witness : ∃ (w : World) (tape : Tape) (i : Input), w.os = os ∧ (w.forCall tape i).Shaped C.prog ∧ i.vars = [] ∧ Input.okWide C.prog (w.forCall tape i) .any w.heap.size f i ∧
      ((s.pre enc C.prog fn conds apart (w.forCall tape i).memory i.args ∧ X (w.forCall tape i).memory i.args) ∧ sizedMet enc C.prog fn (OpenSpec.ofChange s) apart (w.forCall tape i).memory i.args) ∧ a.holds C.prog (lone (Frame.enter C.prog f i.args .normal) [] (w.forCall tape i)))
    (contract : ∀ (W : World) (base : Nat) (args : Array Value) (ds gs : List (DataW H)) (before : List MemPlace),
      (∀ (j : Nat) t v, fn.params[j]? = some t → args[j]? = some v → Value.okWide C.prog W .any base t v) →
      DataW.Whole enc C.prog fn.params.toList s.vars apart W args.toList ds gs before →
      (DataW.weightsEach C.prog (fn.params.toList ++ s.plain.varTypes C.prog) (ds ++ gs)).all (· ≤ reachBytes) = true → X W args → W.ShapedOpen C.prog →
      Calls C.prog f args W fun e W' => ∃ v, e = .returned v ∧ s.post enc C.prog fn apart fresh handsOn again W args v W') :
    ReturnsInHanded a C os f .any (fun w args => (s.pre enc C.prog fn conds apart w args ∧ X w args) ∧ sizedMet enc C.prog fn (OpenSpec.ofChange s) apart w args) (s.post enc C.prog fn apart fresh handsOn again) := by
  refine returnsInHanded_of_calls own started noInit witness ?_
  intro w tape i _ hsh _ hok hpre _
  obtain ⟨_, _, _, fn', hfn', _, _, _, _, hval⟩ := hok
  obtain rfl : fn' = fn := Option.some.inj (hfn'.symm.trans hfn)
  obtain ⟨⟨⟨ds, gs, before, hw, _⟩, hx⟩, hz⟩ := hpre
  refine (contract (w.forCall tape i) w.heap.size i.args ds gs before hval (DataW.Whole.of_heap (w' := w.forCall tape i) (by rfl) hw) (hz.weights hw) (hX _ _ _ (by rfl) hx) hsh).mono fun e W' ⟨v, he, hp⟩ => ?_
  subst he
  exact ChangeSpec.post_blind hp
theorem var_iface {W : World} {n nm : String} {d : DataW Unit} {g t : Nat} {ms : Array (String × TypeId)} (h : Lib.VarReads Tryz.prog W n (.iface nm d)) (hg : Tryz.prog.globalNamed n = some g) (ht : (Tryz.prog.globals[g]?).map (·.type) = some t) (hi : Tryz.prog.underlying t = some (.interface ms)) :
    ∃ t p, W.var? Tryz.prog n = some #[.iface t p] := by
  obtain ⟨g', t', cs, fuel, p, hg', ht', hv, hd⟩ := h
  obtain rfl := Option.some.inj (hg.symm.trans hg')
  obtain rfl := Option.some.inj (ht.symm.trans ht')
  obtain ⟨_, u, v, e, _, _⟩ := iface_of_trod hi hd
  refine ⟨u, v, ?_⟩
  rw [hv]
  cases cs
  simp only at e
  rw [e]
abbrev laidL : List (String × DataW Unit) := Rows.vaultOddRow.laid
set_option maxRecDepth 100000 in
theorem glob_of {W : World} (h : laidMetH Tryz.prog laidL W) (hsh : W.ShapedOpen Tryz.prog) : Glob W := by
  rw [MakeChecks.laidMetH_plain _ _ _ (by kernel_rfl)] at h
  refine ⟨?_, ?_, ?_, ?_⟩
  · obtain ⟨g', t', cs, fuel, p, hg', ht', hv, hd⟩ := Lib.laidMet.reads h (n := "internal/strconv.uint64pow10") (d := Rows.laid_internal_strconv_uint64pow10) (.tail _ (.tail _ (.head _)))
    obtain rfl := Option.some.inj (gpow.symm.trans hg')
    obtain rfl := Option.some.inj ((show (Tryz.prog.globals[3]?).map (·.type) = some 227 by kernel_rfl).symm.trans ht')
    have hd' : DataW.trod (fun _ => ()) Tryz.prog W 0 (fun _ => true) false fuel 227 cs.toList = some (Lib.tabData .u64 (Lib.pow10Tab), p) := hd
    unfold Lib.TabIs
    rw [hv, ← Lib.cells_of_tab Tryz.underlying227 Tryz.underlying200 (by kernel_rfl) (by kernel_rfl) hd']
  · have hb : ((begin Tryz.prog (fun _ _ => 0) default).world.heap[2]?).bind Obj.row? = some (#[.int .i64 0], 3) := by kernel_rfl
    obtain ⟨m, hm⟩ := cell_of_shapedOpen_int hsh (of_decide_eq_true (by kernel_rfl)) hb rfl (by kernel_rfl) (by kernel_rfl) Tryz.underlying3
    obtain ⟨cs, hh, hs, _⟩ := hsh.1 _ _ _ (of_decide_eq_true (by kernel_rfl)) hb
    refine ⟨m, ?_⟩
    have h1 : 0 < cs.size := by rw [hs]; decide
    have hc : cs[0] = .int .i64 m := by
      have : W.cell? ⟨2, 0, none⟩ = some cs[0] := by simp [World.cell?, hh, h1]
      exact Option.some.inj (this.symm.trans hm)
    unfold World.var?
    rw [gmlen]
    simp only [Option.bind_some, hh]
    congr 1
    apply Array.ext
    · rw [hs]; rfl
    · intro i hi1 hi2
      have : i = 0 := by rw [hs] at hi1; simp at hi1; exact hi1
      subst this
      rw [hc]; rfl
  · exact var_iface (Lib.laidMet.reads h (n := "strconv.ErrSyntax") (d := Rows.laid_strconv_ErrSyntax) (.tail _ (.tail _ (.tail _ (.tail _ (.tail _ (.head _))))))) gsyn (by kernel_rfl) Tryz.underlying136
  · exact var_iface (Lib.laidMet.reads h (n := "strconv.ErrRange") (d := Rows.laid_strconv_ErrRange) (.tail _ (.tail _ (.tail _ (.tail _ (.head _)))))) grng (by kernel_rfl) Tryz.underlying136
end Go.Proofs.YtfpbpakgajddnaaGreatDoor.Cg
