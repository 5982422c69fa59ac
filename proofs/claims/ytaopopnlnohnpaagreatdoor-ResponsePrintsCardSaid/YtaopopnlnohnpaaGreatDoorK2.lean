/- Texts of this seat, joined: lemmas and walks that its statements' proofs use. -/
import Derived.Test.YtaopopnlnohnpaaGreatDoorK1
import Derived.Maps.AppendAt
import Derived.Laws.Append
import Derived.Laws.AppendOwn
/- Ofld -/
namespace Go.Proofs.YtaopopnlnohnpaaGreatDoor.O
open Go.RowKit Go.Shelf Go.Proofs.YtaopopnlnohnpaaGreatDoorW.PrintWords Go.Proofs.YtaopopnlnohnpaaGreatDoorW.PrintLast Go.Proofs.YtaopopnlnohnpaaGreatDoorW.PrintMore Go.Proofs.YtaopopnlnohnpaaGreatDoor.P Go.Proofs.YtaopopnlnohnpaaGreatDoor.Sp
attribute [local go_sem] Oper.semAt_some
set_option linter.unusedVariables false
set_option linter.unusedSimpArgs false
def flatV (l : List (Sp.L × Sp.L)) : List Value := l.flatMap fun p => [.string (Sp.mk p.1), .string (Sp.mk p.2)]
def fieldsB (s : ByteArray) : List S41 × ByteArray × Int := (pairsB (Sp.fields s.data.toList).1, Sp.mk (Sp.fields s.data.toList).2.1, (Sp.fields s.data.toList).2.2)
def field_Parse.f (a0 : ByteArray) : Option (List S41 × ByteArray × Int) := if a0.size < 4294967281 then some (fieldsB a0) else none
theorem flat_reps (w : World) (base : Nat) (ok : Nat → Prop) : ∀ l, Reps (k41.M w base ok) 2 (pairsB l) (flatV l)
  | [] => Reps.none _ _
  | p :: l => by
    have h1 : Reps (k41.M w base ok) 2 ([] ++ [⟨Sp.mk p.1, Sp.mk p.2⟩]) ([] ++ [.string (Sp.mk p.1), .string (Sp.mk p.2)]) := (Reps.none _ _).snoc (k41_mkM w base ok _) rfl
    exact Kd.reps_append h1 (flat_reps w base ok l)
theorem flat_row {w : World} {base : Nat} {v : Value} {l : List (Sp.L × Sp.L)} (h : w.ownsRow base 41 2 v l.length (flatV l)) : Kd.R k41 41 w base (fun _ => True) v (pairsB l) :=
  ⟨fun _ _ => trivial, flatV l, by rw [show (pairsB l).length = l.length from by simp [pairsB]]; exact h, flat_reps _ _ _ l⟩
theorem lines_in (n : Nat) (s : ByteArray) (w : World) : CallsIn Fence.wide n Tryz.prog 48 #[.string s] w fun e w' => e = .returned (.func (.func 63) #[] #[.pointer (some ⟨w.heap.size, 0, none⟩)]) ∧ w' = w.alloc (.cells #[.string s] 9) := by
  refine callsIn_of_wp Tryz.func48 rfl trivial ?_ rfl
  simp only [Tryz.ntmps48, List.size_toArray, List.length_cons, List.length_nil, Nat.reduceAdd, Nat.reduceSub, Array.replicate_succ, Array.replicate_zero, List.push_toArray, List.append_toArray, List.nil_append, List.cons_append]
  gi_wp2
  go_ret
  exact ⟨rfl, rfl⟩
/-- What lies between two rounds. N: the whole text's length; R: what the parser comes to. -/
structure Between (w : World) (a0 : ByteArray) (R : List (Sp.L × Sp.L) × Sp.L × Int) (cur : ByteArray) (W : World) : Prop where
  row : ∃ f acc v, Sp.fparse a0.size f cur.data.toList acc = R ∧ cur.size < f ∧ acc.length + cur.size ≤ a0.size ∧ Boxed W (w.heap.size + 1) 22 v ∧ W.ownsRow w.heap.size 41 2 v acc.length (flatV acc)
  s : Boxed W w.heap.size 9 (.string a0)
  rest : Boxed W (w.heap.size + 2) 9 (.string ⟨#[]⟩)
  e : Boxed W (w.heap.size + 3) 27 (.int .i64 0)
  it : ∃ u, Boxed W (w.heap.size + 4) 9 u
  bel : Below w.heap.size w W
/-- How the rounds were left. -/
structure Left (w : World) (a0 : ByteArray) (R : List (Sp.L × Sp.L) × Sp.L × Int) (c : Code) (W : World) : Prop where
  how : (c = .exit 0 ∧ R = ([], [], if a0.size > 8000 then 2 else 180) ∧ (∃ v, Boxed W (w.heap.size + 1) 22 v) ∧ Boxed W (w.heap.size + 2) 9 (.string ⟨#[]⟩) ∧ Boxed W (w.heap.size + 3) 27 (.int .i64 0)) ∨
    (c = .ret ∧ (∃ v, Boxed W (w.heap.size + 1) 22 v ∧ W.ownsRow w.heap.size 41 2 v R.1.length (flatV R.1)) ∧ Boxed W (w.heap.size + 2) 9 (.string (Sp.mk R.2.1)) ∧ Boxed W (w.heap.size + 3) 27 (.int .i64 R.2.2))
  s : Boxed W w.heap.size 9 (.string a0)
  bel : Below w.heap.size w W
theorem Between.own (w : World) (a0 : ByteArray) (R) : OwnFrom (w.heap.size + 5) (Between w a0 R) := by
  intro cur W W' row h hg hr
  have kb : ∀ {B t v}, Boxed W B t v → B < w.heap.size + 5 → Boxed W' B t v := fun hb hlt => hb.kept hg (fun e => by have := (hr _ e.symm).1; omega)
  obtain ⟨⟨f, acc, v, h1, h2, h3, h4, h5⟩, hs, hrest, he, ⟨u, hit⟩, hbel⟩ := h
  refine ⟨⟨f, acc, v, h1, h2, h3, kb h4 zb34, ?_⟩, kb hs zb34, kb hrest zb34, kb he zb34, ⟨u, kb hit zb34⟩, hbel.grown hg hbel.size (fun k e => by have := (hr k e).1; omega)⟩
  refine own_move h5 (fun k hk => hg.block k (own_lt h5 k hk) (fun e => ?_))
  obtain ⟨o, ho, hc⟩ := (hr k e.symm).2
  obtain ⟨cells, hcell⟩ := own_typed h5 k hk
  rw [hcell] at ho
  injection ho with ho
  subst ho
  simp [Obj.isCells] at hc
theorem Left.own (w : World) (a0 : ByteArray) (R) : OwnFrom (w.heap.size + 5) (Left w a0 R) := by
  intro c W W' row h hg hr
  have kb : ∀ {B t v}, Boxed W B t v → B < w.heap.size + 5 → Boxed W' B t v := fun hb hlt => hb.kept hg (fun e => by have := (hr _ e.symm).1; omega)
  obtain ⟨hh, hs, hbel⟩ := h
  refine ⟨?_, kb hs zb34, hbel.grown hg hbel.size (fun k e => by have := (hr k e).1; omega)⟩
  rcases hh with ⟨e1, e2, ⟨v, hv⟩, h2, h3⟩ | ⟨e1, ⟨v, hv, h5⟩, h2, h3⟩
  · exact .inl ⟨e1, e2, ⟨v, kb hv zb34⟩, kb h2 zb34, kb h3 zb34⟩
  · refine .inr ⟨e1, ⟨v, kb hv zb34, ?_⟩, kb h2 zb34, kb h3 zb34⟩
    refine own_move h5 (fun k hk => hg.block k (own_lt h5 k hk) (fun e => ?_))
    obtain ⟨o, ho, hc⟩ := (hr k e.symm).2
    obtain ⟨cells, hcell⟩ := own_typed h5 k hk
    rw [hcell] at ho
    injection ho with ho
    subst ho
    simp [Obj.isCells] at hc
theorem Between.stays (w : World) (a0 : ByteArray) (R) (cur : ByteArray) : Stays (w.heap.size + 4) (Between w a0 R cur) := by
  constructor
  · intro W x h
    obtain ⟨⟨f, acc, v, h1, h2, h3, h4, h5⟩, hs, hrest, he, ⟨u, hit⟩, hbel⟩ := h
    refine ⟨⟨f, acc, v, h1, h2, h3, h4.other zb34 _, ?_⟩, hs.other zb34 _, hrest.other zb34 _, he.other zb34 _, ⟨x, hit.set x⟩, hbel.setCell (p := ⟨w.heap.size + 4, 0, none⟩) (by show w.heap.size ≤ w.heap.size + 4; omega) x⟩
    refine own_move h5 (fun k hk => Below.heap_setCell W _ x k (fun e => ?_))
    obtain ⟨cells, hcell⟩ := own_typed h5 k hk
    have hB : W.heap[w.heap.size + 4]? = some (.cells #[u] 9 (0, 0)) := hit
    rw [e, hB] at hcell
    injection hcell with hcell
    injection hcell with _ h9 _
    revert h9
    decide
  · intro W k h
    obtain ⟨hrow, hs, hrest, he, hit, hbel⟩ := h
    exact ⟨hrow, hs, hrest, he, hit, ⟨hbel.1, hbel.2, hbel.3, hbel.4, hbel.5⟩⟩
theorem line_of {cur x y : ByteArray} (h : lineB cur = some (x, y)) : Sp.line cur.data.toList = some (x.data.toList, y.data.toList) := by
  unfold lineB at h
  cases e : Sp.line cur.data.toList with
  | none => rw [e] at h; simp at h
  | some p =>
    rw [e] at h
    simp only [Option.map_some, Option.some.injEq, Prod.mk.injEq] at h
    obtain ⟨rfl, rfl⟩ := h
    rfl
theorem fparse_step (N f : Nat) (cur x y : ByteArray) (acc : List (Sp.L × Sp.L)) (h : lineB cur = some (x, y)) : Sp.fparse N (f + 1) cur.data.toList acc =
    if N - y.size > 8000 then ([], [], if N > 8000 then 2 else 180) else if x.data.toList = [] then (acc, y.data.toList, 0) else if (Sp.pairP x.data.toList).2.2 = true then Sp.fparse N f y.data.toList (acc ++ [((Sp.pairP x.data.toList).1, (Sp.pairP x.data.toList).2.1)]) else ([], [], 180) := by
  rw [Sp.fparse, line_of h]
  simp only
  rw [← Lib.size_eq, Sp.pairP_eq]
  by_cases h1 : N - y.size > 8000
  · rw [if_pos h1, if_pos h1]
  · rw [if_neg h1, if_neg h1]
    by_cases h2 : x.data.toList = []
    · rw [if_pos h2, if_pos h2]
    · rw [if_neg h2, if_neg h2]
      cases h3 : (Sp.pairP x.data.toList).2.2 <;> simp
theorem fparse_stop (N f : Nat) (cur : ByteArray) (acc : List (Sp.L × Sp.L)) (h : lineB cur = none) : Sp.fparse N (f + 1) cur.data.toList acc = ([], [], if N > 8000 then 2 else 180) := by
  have e : Sp.line cur.data.toList = none := by
    unfold lineB at h
    cases e : Sp.line cur.data.toList with
    | none => rfl
    | some p => rw [e] at h; simp at h
  rw [Sp.fparse, e]
theorem bx_below {W W1 : World} {B : Nat} {t : TypeId} {v : Value} (h : Boxed W B t v) (hb : Below W.heap.size W W1) : Boxed W1 B t v := (hb.block B h.lt).trans h
theorem bx_set {W : World} {B : Nat} {t : TypeId} {v : Value} (h : Boxed W B t v) (p : Addr) (hne : B ≠ p.block) (x : Value) : Boxed (W.setCell p x) B t v := (Below.heap_setCell W p x B hne).trans h
theorem keeps_below {W W1 : World} (hb : Below W.heap.size W W1) (N : Nat) : KeepsFrom N W W1 := ⟨hb.size, fun k o _ hk _ => (hb.block k (Array.getElem?_eq_some_iff.1 hk).1).trans hk⟩
theorem row_below {W W1 : World} {base k : Nat} {e : TypeId} {v : Value} {xs : List Value} (h : W.ownsRow base e 2 v k xs) (hb : Below W.heap.size W W1) : W1.ownsRow base e 2 v k xs := own_move h (fun j hj => hb.block j (own_lt h j hj))
theorem cells_two (w : World) (o : Obj) (x y : Value) : ∀ (j : Nat) u, [x, y][j]? = some u → ((w.alloc o).alloc (.cells #[x, y] 41)).cell? ((⟨w.heap.size + 1, 0, none⟩ : Addr).add j) = some u := by
  intro j u hj
  have e : w.heap.size + 1 = (w.alloc o).heap.size := (World.size_alloc _ _).symm
  match j, hj with
  | 0, hj =>
    simp at hj
    subst hj
    rw [e]
    simp [Addr.add]
  | 1, hj =>
    simp at hj
    subst hj
    rw [e]
    simp [Addr.add]
theorem own_slice {W : World} {base k : Nat} {e : TypeId} {v : Value} {xs : List Value} (h : W.ownsRow base e 2 v k xs) : ∃ A c, v = .slice A k c := by
  rcases h.2 with ⟨rfl, rfl⟩ | ⟨g, cap, cur, rfl, _⟩
  · exact ⟨none, 0, rfl⟩
  · exact ⟨_, cap, rfl⟩
theorem row_far {W : World} {base k B : Nat} {t : TypeId} {u x v : Value} {xs : List Value} (h : W.ownsRow base 41 2 v k xs) (hb : Boxed W B t u) (ht : t ≠ 41) : (W.setCell ⟨B, 0, none⟩ x).ownsRow base 41 2 v k xs := by
  refine own_move h (fun j hj => Below.heap_setCell W _ x j (fun e => ?_))
  obtain ⟨cells, hcell⟩ := own_typed h j hj
  have hB : W.heap[B]? = some (.cells #[u] t (0, 0)) := hb
  rw [e, hB] at hcell
  injection hcell with hcell
  injection hcell with _ h9 _
  exact ht h9
theorem row_set3 {w W : World} {k : Nat} {v u1 u2 u3 x1 x2 x3 : Value} {xs : List Value} (h : W.ownsRow w.heap.size 41 2 v k xs) (h1 : Boxed W (w.heap.size + 1) 22 u1) (h2 : Boxed W (w.heap.size + 2) 9 u2) (h3 : Boxed W (w.heap.size + 3) 27 u3) :
    (((W.setCell ⟨w.heap.size + 1, 0, none⟩ x1).setCell ⟨w.heap.size + 2, 0, none⟩ x2).setCell ⟨w.heap.size + 3, 0, none⟩ x3).ownsRow w.heap.size 41 2 v k xs :=
  row_far (row_far (row_far h h1 zb39) (h2.other zb34 _) zb39) ((h3.other zb34 _).other zb34 _) zb39
theorem parse_leaves {tmps : Array Value} {w W : World} {D : Nat} {v : Value} {a0 r2 : ByteArray} {r3 : Int} {l : List (Sp.L × Sp.L)} {o : Option (List Deferred)} {F : List (Sp.L × Sp.L) × Sp.L × Int}
    (t2 : tmps[2]? = some (.pointer (some ⟨w.heap.size + 1, 0, none⟩))) (t3 : tmps[3]? = some (.pointer (some ⟨w.heap.size + 2, 0, none⟩))) (t4 : tmps[4]? = some (.pointer (some ⟨w.heap.size + 3, 0, none⟩)))
    (hK : W.heap[D]? = some (.deferred o)) (hv : Boxed W (w.heap.size + 1) 22 v) (hr : Boxed W (w.heap.size + 2) 9 (.string r2)) (he : Boxed W (w.heap.size + 3) 27 (.int .i64 r3))
    (hrow : W.ownsRow w.heap.size 41 2 v l.length (flatV l)) (hbel : Below w.heap.size w W) (hD : w.heap.size + 5 ≤ D) (hF : Sp.fields a0.data.toList = F) (hF2 : (l, r2, r3) = (F.1, Sp.mk F.2.1, F.2.2)) :
    LeavesInM Fence.wide 10 Tryz.prog Tryz.f29 tmps (fun e w' => ∃ v0_ : Value, e = .returned (.tuple #[v0_, .string (fieldsB a0).2.1, .int .i64 (fieldsB a0).2.2]) ∧ Kd.R k41 41 w' w.heap.size (fun _ => True) v0_ (fieldsB a0).1 ∧ Below w.heap.size w w') [] .returning (W.putObj D (.deferred none)) := by
  have g := grownBy_putObj' W D (.deferred none)
  have kb : ∀ {B t u}, Boxed W B t u → B < w.heap.size + 5 → Boxed (W.putObj D (.deferred none)) B t u := fun hb hlt => hb.kept g (fun e => by have := Option.some.inj e; omega)
  have c1 := (kb hv zb34).cell
  have c2 := (kb hr zb34).cell
  have c3 := (kb he zb34).cell
  have e : fieldsB a0 = (pairsB l, r2, r3) := by
    unfold fieldsB
    rw [hF]
    obtain ⟨rfl, h2⟩ := Prod.mk.inj hF2
    obtain ⟨rfl, rfl⟩ := Prod.mk.inj h2
    rfl
  rw [e]
  refine ⟨.tuple #[v, .string r2, .int .i64 r3], ?_, v, rfl, flat_row ?_, ?_⟩
  · simp [results, Tryz.f29, go_sem, t2, t3, t4, c1, c2, c3]
  · refine own_move hrow (fun k hk => g.block k (own_lt hrow k hk) (fun e2 => ?_))
    obtain ⟨cells, hcell⟩ := own_typed hrow k hk
    obtain rfl := Option.some.inj e2
    rw [hK] at hcell
    cases hcell
  · exact hbel.grown g hbel.size (fun k ek => by have := Option.some.inj ek; omega)
set_option maxRecDepth 100000 in
set_option maxHeartbeats 4000000 in
theorem parse_in (a0 : ByteArray) (w : World) (hG : Glob w) (hs : a0.size < 4294967281) :
    Calls Tryz.prog 29 #[.string a0] w fun e w' => ∃ v0_ : Value, e = .returned (.tuple #[v0_, .string (fieldsB a0).2.1, .int .i64 (fieldsB a0).2.2]) ∧ Kd.R k41 41 w' w.heap.size (fun _ => True) v0_ (fieldsB a0).1 ∧ Below w.heap.size w w' := by
  obtain ⟨i0, hi, hz0, hz1', hz2⟩ := info_parts info41
  refine (callsIn_wide (n := 10)).1 ?_
  have hfl : Fence.wide.fn 48 := trivial
  have hn10 : 1 ≤ 10 := by omega
  refine callsIn_of_wp_marks Tryz.func29 rfl trivial ?_ rfl
  simp only [Tryz.ntmps29, List.size_toArray, List.length_cons, List.length_nil, Nat.reduceAdd, Nat.reduceSub, Array.replicate_succ, Array.replicate_zero, List.push_toArray, List.append_toArray, List.nil_append, List.cons_append]
  gi_wp2_with (gi_at_call 48; refine (lines_in _ _ _).mono ?_; rintro e w' ⟨rfl, rfl⟩)
  simp only [Nat.add_assoc, Nat.reduceAdd]
  obtain ⟨R, hR⟩ : ∃ R, R = Sp.fields a0.data.toList := ⟨_, rfl⟩
  have hbox0 : Boxed ((((((w.alloc (Obj.cells #[Value.string a0] 9)).alloc (Obj.cells #[Value.slice none 0 0] 22)).alloc (Obj.cells #[Value.string ⟨#[]⟩] 9)).alloc (Obj.cells #[Value.int IntKind.i64 0] 27)).alloc (Obj.cells #[Value.string a0] 9))) (w.heap.size + 4) 9 (.string a0) := by
    have := Boxed.new ((((w.alloc (Obj.cells #[Value.string a0] 9)).alloc (Obj.cells #[Value.slice none 0 0] 22)).alloc (Obj.cells #[Value.string ⟨#[]⟩] 9)).alloc (Obj.cells #[Value.int IntKind.i64 0] 27)) 9 (.string a0)
    simpa only [World.size_alloc, Nat.add_assoc, Nat.reduceAdd] using this
  have hbt : Between w a0 R a0 ((((((w.alloc (Obj.cells #[Value.string a0] 9)).alloc (Obj.cells #[Value.slice none 0 0] 22)).alloc (Obj.cells #[Value.string ⟨#[]⟩] 9)).alloc (Obj.cells #[Value.int IntKind.i64 0] 27)).alloc (Obj.cells #[Value.string a0] 9))) := by
    have p0 := Boxed.new w 9 (.string a0)
    have p1 := Boxed.new (w.alloc (Obj.cells #[Value.string a0] 9)) 22 (.slice none 0 0)
    have p2 := Boxed.new ((w.alloc (Obj.cells #[Value.string a0] 9)).alloc (Obj.cells #[Value.slice none 0 0] 22)) 9 (.string ⟨#[]⟩)
    have p3 := Boxed.new (((w.alloc (Obj.cells #[Value.string a0] 9)).alloc (Obj.cells #[Value.slice none 0 0] 22)).alloc (Obj.cells #[Value.string ⟨#[]⟩] 9)) 27 (.int .i64 0)
    simp only [World.size_alloc, Nat.add_assoc, Nat.reduceAdd] at p1 p2 p3
    refine ⟨⟨a0.data.toList.length + 1, [], _, ?_, ?_, ?_, ((p1.alloc _).alloc _).alloc _, World.ownsRow_nil _ _ _ _⟩, (((p0.alloc _).alloc _).alloc _).alloc _, (p2.alloc _).alloc _, p3.alloc _, ⟨_, hbox0⟩, ?_⟩
    · rw [hR, Lib.size_eq]; rfl
    · rw [Lib.size_eq]; omega
    · simp
    · exact ((((((Below.refl _ w).alloc (Nat.le_refl _) _).alloc zb46 _).alloc (by simp; omega) _).alloc (by simp; omega) _).alloc (by simp; omega) _)
  have hsz5 : ((((((w.alloc (Obj.cells #[Value.string a0] 9)).alloc (Obj.cells #[Value.slice none 0 0] 22)).alloc (Obj.cells #[Value.string ⟨#[]⟩] 9)).alloc (Obj.cells #[Value.int IntKind.i64 0] 27)).alloc (Obj.cells #[Value.string a0] 9))).heap.size = w.heap.size + 5 := by simp only [World.size_alloc]
  generalize ((((((w.alloc (Obj.cells #[Value.string a0] 9)).alloc (Obj.cells #[Value.slice none 0 0] 22)).alloc (Obj.cells #[Value.string ⟨#[]⟩] 9)).alloc (Obj.cells #[Value.int IntKind.i64 0] 27)).alloc (Obj.cells #[Value.string a0] 9))) = W0 at *
  have hbt' := Lib.hid hbt
  have hbox' := Lib.hid hbox0
  have hsz' := Lib.hid hsz5
  have hR' := Lib.hid hR
  clear hbt hbox0 hR hsz5
  refine range_lines (F := Fence.wide) (n := 10) rfl zb34 (gf := 63) (lb := #[.pointer (some ⟨w.heap.size + 4, 0, none⟩)]) rfl trivial (enters_of Tryz.func63 zb11 rfl)
    (lines_stops 9 zb34 (w.heap.size + 4) a0 W0 hs (by rw [hsz'.out]; omega) hbox'.out) (by rw [hsz'.out]; omega) rfl
    (Between w a0 R) (Left w a0 R) (by rw [hsz'.out]; exact Between.own w a0 R) (by rw [hsz'.out]; exact Left.own w a0 R) (Between.stays w a0 R) (fun c W h => hG.below h.bel) hbt'.out
    (fun x y => { tmps := #[Value.string a0, Value.pointer (some { block := w.heap.size, off := 0 }), Value.pointer (some { block := w.heap.size + 1, off := 0 }), Value.pointer (some { block := w.heap.size + 2, off := 0 }), Value.pointer (some { block := w.heap.size + 3, off := 0 }), .string x, .string y, undef, undef, Value.string a0, Value.func (Fn.func 63) #[] #[Value.pointer (some { block := w.heap.size + 4, off := 0 })], .string x, .string y, undef, undef, undef, undef, undef, undef, undef, undef, undef, undef, undef, undef, undef, undef, undef, undef, undef, undef, undef, undef, undef, undef, undef, undef], defers := [] }) ?assign ?body ?done ?stop
  case assign =>
    intro l x y W K hK
    gi_wp2
    exact hK
  case body =>
    intro l cur x y W hb hline
    obtain ⟨⟨f, acc, v, hf, hcf, hlen, hv, hrow⟩, hsb, hrb, heb, hib, hbel⟩ := hb
    have hsz := lineB_size cur x y hline
    obtain ⟨f, rfl⟩ : ∃ f', f = f' + 1 := ⟨f - 1, by omega⟩
    obtain ⟨A, c, rfl⟩ := own_slice hrow
    have hstep := fparse_step a0.size f cur x y acc hline
    rw [hf] at hstep
    have hya : y.size ≤ a0.size := by omega
    have hya2 : (y.size : Int) ≤ (a0.size : Int) := by omega
    have hc0 := hsb.cell
    have hcl := hv.cell
    have hcr := hrb.cell
    have hce := heb.cell
    have hfl := hv.frozen
    have hfr := hrb.frozen
    have hfe := heb.frozen
    have hWk := Lib.hid (⟨hsb, hrb, heb, hib, hbel, hv, hrow⟩ : Boxed W w.heap.size 9 (.string a0) ∧ Boxed W (w.heap.size + 2) 9 (.string ⟨#[]⟩) ∧ Boxed W (w.heap.size + 3) 27 (.int .i64 0) ∧ (∃ u, Boxed W (w.heap.size + 4) 9 u) ∧ Below w.heap.size w W ∧ Boxed W (w.heap.size + 1) 22 (.slice A acc.length c) ∧ W.ownsRow w.heap.size 41 2 (.slice A acc.length c) acc.length (flatV acc))
    clear hsb hrb heb hib hbel hv hrow hf hbt' hbox'
    have hszH := Lib.hid (⟨hsz, hcf, hlen, hya⟩ : cur.size = x.size + y.size + 2 ∧ cur.size < f + 1 ∧ acc.length + cur.size ≤ a0.size ∧ y.size ≤ a0.size)
    clear hsz hcf hlen hline
    by_cases hhead : 8000 < (a0.size : Int) - (y.size : Int)
    · rw [if_pos zb34] at hstep
      have hst := Lib.hid hstep
      have hd := decide_eq_true hhead
      clear hstep hhead hya
      gi_wp2
      obtain ⟨hsb, hrb, heb, hib, hbel, hv, hrow⟩ := hWk.out
      exact ⟨KeepsFrom.refl _ _, ⟨.inl ⟨rfl, hst.out, ⟨_, hv⟩, hrb, heb⟩, hsb, hbel⟩⟩
    · rw [if_neg zb34] at hstep
      have hd := decide_eq_false hhead
      clear hhead hya
      by_cases hx0 : x.data.toList = []
      · rw [if_pos hx0] at hstep
        have hst := Lib.hid hstep
        obtain rfl : x = ⟨#[]⟩ := Sp.ba_ext hx0
        clear hstep hx0
        obtain ⟨hsb, hrb, heb, hib, hbel, hv, hrow⟩ := hWk.out
        gi_wp2
        have hv2 := (((hv.set (.slice A acc.length c)).other (B' := w.heap.size + 2) zb34 (.string y)).other (B' := w.heap.size + 3) zb34 (.int .i64 0))
        have hr2 := (((hrb.other (B' := w.heap.size + 1) zb34 (.slice A acc.length c)).set (.string y)).other (B' := w.heap.size + 3) zb34 (.int .i64 0))
        have he2 := (((heb.other (B' := w.heap.size + 1) zb34 (.slice A acc.length c)).other (B' := w.heap.size + 2) zb34 (.string y)).set (.int .i64 0))
        have hs2 := (((hsb.other (B' := w.heap.size + 1) zb34 (.slice A acc.length c)).other (B' := w.heap.size + 2) zb34 (.string y)).other (B' := w.heap.size + 3) zb34 (.int .i64 0))
        refine ⟨((((KeepsOthers.setCell _ _ _).trans (KeepsOthers.setCell _ _ _)).trans (KeepsOthers.setCell _ _ _)).from _), ⟨.inr ⟨rfl, ⟨_, hv2, ?_⟩, ?_, ?_⟩, hs2, ?_⟩⟩
        · rw [hst.out]
          exact row_set3 hrow hv hrb heb
        · rw [hst.out]
          show Boxed _ _ _ (.string (Sp.mk y.data.toList))
          rw [Sp.mk_self]
          exact hr2
        · rw [hst.out]
          exact he2
        · exact ((hbel.setCell (p := ⟨w.heap.size + 1, 0, none⟩) (Nat.le_add_right _ _) _).setCell (p := ⟨w.heap.size + 2, 0, none⟩) (Nat.le_add_right _ _) _).setCell (p := ⟨w.heap.size + 3, 0, none⟩) (Nat.le_add_right _ _) _
      · rw [if_neg hx0] at hstep
        have hne1 : ¬ x.toList = [] := by rw [Sp.tl]; exact hx0
        have hne2 : (x.toList == []) = false := by simpa using hne1
        have hxl : x.data.toList.length < 4294967281 := by rw [← Lib.size_eq]; have := hszH.out; omega
        have HF := Sp.pairF x.data.toList (x.data.toList.length + 1) hxl zb34
        rw [Sp.mk_self] at HF
        have HP0 := field_pair.calls _ x _ _ _ W (hG.below hWk.out.2.2.2.2.1) HF
        clear HF hxl hx0
        have hf31 : Fence.wide.fn 49 := trivial
        obtain ⟨pp, hpp⟩ : ∃ pp, pp = Sp.pairP x.data.toList := ⟨_, rfl⟩
        rw [← hpp] at hstep HP0
        clear hpp
        obtain ⟨q1, q2, q3⟩ := pp
        simp only at hstep HP0
        have HP := Lib.hid (CallsIn.inRound l (callsIn_wide.2 HP0) (n := 7))
        have hst := Lib.hid hstep
        clear hstep HP0
        obtain ⟨hsb, hrb, heb, hib, hbel, hv, hrow⟩ := hWk.out
        have hvH := Lib.hid hv
        have hrH := Lib.hid hrb
        have heH := Lib.hid heb
        clear hv hrb heb hcl hcr hce hfl hfr hfe
        cases q3 with
        | false =>
          gi_wp2_with (gi_at_call 49; refine HP.out.mono ?_; rintro e W1 ⟨rfl, hb1⟩; have hv1 := Lib.hid (bx_below hvH.out hb1); have hr1 := Lib.hid (bx_below hrH.out hb1); have he1 := Lib.hid (bx_below heH.out hb1); have hl1 := hv1.out.cell; have hl2 := hv1.out.frozen; have hl3 := hr1.out.cell; have hl4 := hr1.out.frozen; have hl5 := he1.out.cell; have hl6 := he1.out.frozen; have hz1 := hv1.out.lt; have hz2 := hr1.out.lt; have hz3 := he1.out.lt)
          have hR2 : R = ([], [], 180) := by simpa using hst.out
          have hlt := hbel.size
          have hrr := hrH.out
          have hee := heH.out
          have hvv := hvH.out
          have hss := bx_below hsb hb1
          have e1 := (((hv1.out.set (.slice none 0 0)).other (B' := w.heap.size + 2) zb34 (.string ⟨#[]⟩)).other (B' := w.heap.size + 3) zb34 (.int .i64 180)).alloc (Obj.cells #[Value.string (Sp.mk q1), Value.string (Sp.mk q2)] 41)
          have e2 := (((hr1.out.other (B' := w.heap.size + 1) zb34 (.slice none 0 0)).set (.string ⟨#[]⟩)).other (B' := w.heap.size + 3) zb34 (.int .i64 180)).alloc (Obj.cells #[Value.string (Sp.mk q1), Value.string (Sp.mk q2)] 41)
          have e3 := (((he1.out.other (B' := w.heap.size + 1) zb34 (.slice none 0 0)).other (B' := w.heap.size + 2) zb34 (.string ⟨#[]⟩)).set (.int .i64 180)).alloc (Obj.cells #[Value.string (Sp.mk q1), Value.string (Sp.mk q2)] 41)
          have e0 := (((hss.other (B' := w.heap.size + 1) zb34 (.slice none 0 0)).other (B' := w.heap.size + 2) zb34 (.string ⟨#[]⟩)).other (B' := w.heap.size + 3) zb34 (.int .i64 180)).alloc (Obj.cells #[Value.string (Sp.mk q1), Value.string (Sp.mk q2)] 41)
          refine ⟨((((keeps_below hb1 _).trans ((KeepsOthers.setCell _ _ _).from _)).trans ((KeepsOthers.setCell _ _ _).from _)).trans ((KeepsOthers.setCell _ _ _).from _)).trans ((KeepsOthers.alloc _ _).from _), ⟨.inr ⟨rfl, ⟨_, e1, ?_⟩, ?_, ?_⟩, e0, ?_⟩⟩
          · rw [hR2]
            exact World.ownsRow_nil _ _ _ _
          · rw [hR2]
            exact e2
          · rw [hR2]
            exact e3
          · refine ((((hbel.trans (hb1.mono hbel.size)).setCell (p := ⟨w.heap.size + 1, 0, none⟩) (Nat.le_add_right _ _) _).setCell (p := ⟨w.heap.size + 2, 0, none⟩) (Nat.le_add_right _ _) _).setCell (p := ⟨w.heap.size + 3, 0, none⟩) (Nat.le_add_right _ _) _).alloc ?_ _
            have := hb1.size
            simp only [World.setCell, Array.size_modify]
            omega
        | true =>
          have hlH := Lib.hid (show acc.length + 1 ≤ 4294967281 by have := hszH.out; omega)
          gi_wp2_with (first | (gi_at_call 49; refine HP.out.mono ?_; rintro e W1 ⟨rfl, hb1⟩; have hv1 := Lib.hid (bx_below hvH.out hb1); have hl1 := hv1.out.cell; have hl2 := hv1.out.frozen; have hz1 := hv1.out.lt; have hb1 := Lib.hid hb1) | (gi_at_builtin; refine wpListIn_append_own _ rfl _ _ 22 rfl w.heap.size 41 i0 _ 2 32 Tryz.underlying22 hi hz0 hz1' hz2 rfl zb39 _ _ _ rfl (((row_below hrow hb1.out).alloc _).alloc _) ⟨W1.heap.size + 1, 0, none⟩ 1 1 [.string (Sp.mk q1), .string (Sp.mk q2)] rfl rfl (cells_two _ _ _ _) (by simp [Value.oneCell']) (by have := hlH.out; unfold maxLen; omega) (by have := hlH.out; omega) (by have := hbel.size; have := hb1.out.size; simp; omega) ?_; intro v' w1 hown' hgrow _; obtain ⟨A', c', rfl⟩ := own_slice hown'; have hown' := Lib.hid hown'; have hv2 := Lib.hid (((hv1.out.alloc _).alloc _).kept hgrow (hvH.out.not_row zb39 hrow)); have hgrow := Lib.hid hgrow; have hl3 := hv2.out.cell; have hl4 := hv2.out.frozen))
          have hR2 : Sp.fparse a0.size f y.data.toList (acc ++ [(q1, q2)]) = R := by simpa using hst.out.symm
          have hszz := hszH.out
          have hrowW1 := row_below hrow hb1.out
          have nr : ∀ {B t u}, Boxed W B t u → t ≠ 41 → Boxed w1 B t u := fun hb ht => (((bx_below hb hb1.out).alloc _).alloc _).kept hgrow.out (hb.not_row ht hrow)
          obtain ⟨u4, hu4⟩ := hib
          have g4 := nr hu4 zb39
          refine ⟨?_, ?_, ⟨⟨f, acc ++ [(q1, q2)], _, hR2, by omega, by simp only [List.length_append, List.length_singleton]; omega, hv2.out.set _, ?_⟩, bx_set (nr hsb zb39) _ (by show w.heap.size ≠ w.heap.size + 1; omega) _, bx_set (nr hrH.out zb39) _ (by show w.heap.size + 2 ≠ w.heap.size + 1; omega) _, bx_set (nr heH.out zb39) _ (by show w.heap.size + 3 ≠ w.heap.size + 1; omega) _, ⟨u4, bx_set g4 _ (by show w.heap.size + 4 ≠ w.heap.size + 1; omega) _⟩, ?_⟩⟩
          · refine ((((keeps_below hb1.out _).trans ((KeepsOthers.alloc _ _).from _)).trans ((KeepsOthers.alloc _ _).from _)).trans ((KeepsOthers.of_grownBy hgrow.out fun j o ej hj => ?_).from _)).trans ((KeepsOthers.setCell _ _ _).from _)
            obtain ⟨cells, hcell⟩ := own_typed ((hrowW1.alloc (Obj.cells #[Value.string (Sp.mk q1), Value.string (Sp.mk q2)] 41)).alloc (Obj.cells #[Value.string (Sp.mk q1), Value.string (Sp.mk q2)] 41)) j ej
            rw [hcell] at hj
            cases hj
            rfl
          · exact (Below.heap_setCell _ _ _ _ (by show w.heap.size + 4 ≠ w.heap.size + 1; omega)).trans ((show w1.heap[w.heap.size + 4]? = _ from g4).trans (show W.heap[w.heap.size + 4]? = _ from hu4).symm)
          · have h9 := row_far (x := .slice A' (acc.length + 1) c') hown'.out hv2.out zb39
            rw [show (acc ++ [(q1, q2)]).length = acc.length + 1 from by simp, show flatV (acc ++ [(q1, q2)]) = flatV acc ++ [.string (Sp.mk q1), .string (Sp.mk q2)] from by simp [flatV]]
            exact h9
          · refine ((((hbel.trans (hb1.out.mono hbel.size)).alloc (Nat.le_trans hbel.size hb1.out.size) _).alloc ?_ _).grown hgrow.out ?_ (fun k ek => own_base hrow k ek)).setCell (p := ⟨w.heap.size + 1, 0, none⟩) (Nat.le_add_right _ _) _
            · have := hbel.size; have := hb1.out.size; simp; omega
            · have := hbel.size; have := hb1.out.size; simp; omega
  case done =>
    intro D cur W hD hcur hb hK
    obtain ⟨⟨f, acc, v, hf, hcf, hlen, hv, hrow⟩, hsb, hrb, heb, hib, hbel⟩ := hb
    obtain ⟨f, rfl⟩ : ∃ f', f = f' + 1 := ⟨f - 1, by omega⟩
    have hend := (fparse_stop a0.size f cur acc hcur).symm.trans hf
    obtain ⟨A, c, rfl⟩ := own_slice hrow
    have hc0 := hsb.cell
    have hcl := hv.cell
    have hcr := hrb.cell
    have hce := heb.cell
    have hflz := hv.frozen
    have hfr := hrb.frozen
    have hfe := heb.frozen
    have hd5 : w.heap.size + 5 ≤ D := by rw [← hsz'.out]; exact hD
    have hWk := Lib.hid (⟨hsb, hrb, heb, hbel, hv⟩ : Boxed W w.heap.size 9 (.string a0) ∧ Boxed W (w.heap.size + 2) 9 (.string ⟨#[]⟩) ∧ Boxed W (w.heap.size + 3) 27 (.int .i64 0) ∧ Below w.heap.size w W ∧ Boxed W (w.heap.size + 1) 22 (.slice A acc.length c))
    have hfB := Lib.hid (hR'.out.symm.trans hend.symm)
    have hKH := Lib.hid hK
    clear hf hlen hcur hbt' hbox' hsb hrb heb hib hbel hv hrow hend hK hR' hcf
    by_cases h8 : 8000 < (a0.size : Int)
    · have hdd := decide_eq_true h8
      gi_wp2
      obtain ⟨hsb, hrb, heb, hbel, hv⟩ := hWk.out
      have hK3 := (((KeepsOthers.setCell W ⟨w.heap.size + 1, 0, none⟩ (.slice none 0 0)).trans (KeepsOthers.setCell _ ⟨w.heap.size + 2, 0, none⟩ (.string ⟨#[]⟩))).trans (KeepsOthers.setCell _ ⟨w.heap.size + 3, 0, none⟩ (.int .i64 2))).same D _ hKH.out rfl
      refine ⟨by simp, .inl ⟨_, _, rfl, run_takeDeferred hK3, ?_⟩⟩
      exact parse_leaves rfl rfl rfl hK3 (((hv.set _).other zb34 _).other zb34 _) (((hrb.other zb34 _).set _).other zb34 _) (((heb.other zb34 _).other zb34 _).set _) (World.ownsRow_nil _ _ _ _) (((hbel.setCell (p := ⟨w.heap.size + 1, 0, none⟩) (Nat.le_add_right _ _) _).setCell (p := ⟨w.heap.size + 2, 0, none⟩) (Nat.le_add_right _ _) _).setCell (p := ⟨w.heap.size + 3, 0, none⟩) (Nat.le_add_right _ _) _) hd5 (hfB.out.trans (by rw [if_pos zb34])) rfl
    · have hdd := decide_eq_false h8
      gi_wp2
      obtain ⟨hsb, hrb, heb, hbel, hv⟩ := hWk.out
      have hK3 := (((KeepsOthers.setCell W ⟨w.heap.size + 1, 0, none⟩ (.slice none 0 0)).trans (KeepsOthers.setCell _ ⟨w.heap.size + 2, 0, none⟩ (.string ⟨#[]⟩))).trans (KeepsOthers.setCell _ ⟨w.heap.size + 3, 0, none⟩ (.int .i64 180))).same D _ hKH.out rfl
      refine ⟨by simp, .inl ⟨_, _, rfl, run_takeDeferred hK3, ?_⟩⟩
      exact parse_leaves rfl rfl rfl hK3 (((hv.set _).other zb34 _).other zb34 _) (((hrb.other zb34 _).set _).other zb34 _) (((heb.other zb34 _).other zb34 _).set _) (World.ownsRow_nil _ _ _ _) (((hbel.setCell (p := ⟨w.heap.size + 1, 0, none⟩) (Nat.le_add_right _ _) _).setCell (p := ⟨w.heap.size + 2, 0, none⟩) (Nat.le_add_right _ _) _).setCell (p := ⟨w.heap.size + 3, 0, none⟩) (Nat.le_add_right _ _) _) hd5 (hfB.out.trans (by rw [if_neg zb34])) rfl
  case stop =>
    intro D c W hD hl hK
    obtain ⟨hhow, hsb, hbel⟩ := hl
    have hd5 : w.heap.size + 5 ≤ D := by rw [← hsz'.out]; exact hD
    have hKH := Lib.hid hK
    clear hK hbt' hbox'
    rcases hhow with ⟨rfl, hfin, ⟨v, hv⟩, hrb, heb⟩ | ⟨rfl, ⟨v, hv, hrow⟩, hrb, heb⟩
    · have hc0 := hsb.cell
      have hcl := hv.cell
      have hcr := hrb.cell
      have hce := heb.cell
      have hflz := hv.frozen
      have hfr := hrb.frozen
      have hfe := heb.frozen
      have hWk := Lib.hid (⟨hsb, hrb, heb, hbel, hv⟩ : Boxed W w.heap.size 9 (.string a0) ∧ Boxed W (w.heap.size + 2) 9 (.string ⟨#[]⟩) ∧ Boxed W (w.heap.size + 3) 27 (.int .i64 0) ∧ Below w.heap.size w W ∧ Boxed W (w.heap.size + 1) 22 v)
      have hfB := Lib.hid (hR'.out.symm.trans hfin)
      clear hfin hsb hrb heb hbel hv hR'
      by_cases h8 : 8000 < (a0.size : Int)
      · have hdd := decide_eq_true h8
        gi_wp2
        obtain ⟨hsb, hrb, heb, hbel, hv⟩ := hWk.out
        have hK3 := (((KeepsOthers.setCell W ⟨w.heap.size + 1, 0, none⟩ (.slice none 0 0)).trans (KeepsOthers.setCell _ ⟨w.heap.size + 2, 0, none⟩ (.string ⟨#[]⟩))).trans (KeepsOthers.setCell _ ⟨w.heap.size + 3, 0, none⟩ (.int .i64 2))).same D _ hKH.out rfl
        refine ⟨by simp, .inl ⟨_, _, rfl, run_takeDeferred hK3, ?_⟩⟩
        exact parse_leaves rfl rfl rfl hK3 (((hv.set _).other zb34 _).other zb34 _) (((hrb.other zb34 _).set _).other zb34 _) (((heb.other zb34 _).other zb34 _).set _) (World.ownsRow_nil _ _ _ _) (((hbel.setCell (p := ⟨w.heap.size + 1, 0, none⟩) (Nat.le_add_right _ _) _).setCell (p := ⟨w.heap.size + 2, 0, none⟩) (Nat.le_add_right _ _) _).setCell (p := ⟨w.heap.size + 3, 0, none⟩) (Nat.le_add_right _ _) _) hd5 (hfB.out.trans (by rw [if_pos zb34])) rfl
      · have hdd := decide_eq_false h8
        gi_wp2
        obtain ⟨hsb, hrb, heb, hbel, hv⟩ := hWk.out
        have hK3 := (((KeepsOthers.setCell W ⟨w.heap.size + 1, 0, none⟩ (.slice none 0 0)).trans (KeepsOthers.setCell _ ⟨w.heap.size + 2, 0, none⟩ (.string ⟨#[]⟩))).trans (KeepsOthers.setCell _ ⟨w.heap.size + 3, 0, none⟩ (.int .i64 180))).same D _ hKH.out rfl
        refine ⟨by simp, .inl ⟨_, _, rfl, run_takeDeferred hK3, ?_⟩⟩
        exact parse_leaves rfl rfl rfl hK3 (((hv.set _).other zb34 _).other zb34 _) (((hrb.other zb34 _).set _).other zb34 _) (((heb.other zb34 _).other zb34 _).set _) (World.ownsRow_nil _ _ _ _) (((hbel.setCell (p := ⟨w.heap.size + 1, 0, none⟩) (Nat.le_add_right _ _) _).setCell (p := ⟨w.heap.size + 2, 0, none⟩) (Nat.le_add_right _ _) _).setCell (p := ⟨w.heap.size + 3, 0, none⟩) (Nat.le_add_right _ _) _) hd5 (hfB.out.trans (by rw [if_neg zb34])) rfl
    · have hvH := Lib.hid hv
      have hrH := Lib.hid hrb
      have heH := Lib.hid heb
      clear hv hrb heb
      gi_wp2
      refine ⟨by simp, .inl ⟨_, _, rfl, run_takeDeferred hKH.out, ?_⟩⟩
      exact parse_leaves rfl rfl rfl hKH.out hvH.out hrH.out heH.out hrow hbel hd5 hR'.out.symm rfl
theorem field_Parse.calls (a0 : ByteArray) (r1 : List S41) (r2 : ByteArray) (r3 : Int) (w : World) (hG : Glob w) (h : field_Parse.f a0 = some (r1, r2, r3)) :
    Calls Tryz.prog 29 #[.string a0] w fun e w' => ∃ v0_ : Value, e = .returned (.tuple #[v0_, .string r2, .int .i64 r3]) ∧ Kd.R k41 41 w' w.heap.size (fun _ => True) v0_ r1 ∧ Below w.heap.size w w' := by
  unfold field_Parse.f at h
  split at h
  case isFalse => exact absurd h zb46
  rename_i hs
  have h2 := Option.some.inj h
  have := parse_in a0 w hG hs
  rw [h2] at this
  exact this
end Go.Proofs.YtaopopnlnohnpaaGreatDoor.O
/- Px12 -/
namespace Go.Proofs.YtaopopnlnohnpaaGreatDoor.P
open Go.Proofs.YtaopopnlnohnpaaGreatDoor.B
open Go.RowKit Go.Proofs.YtaopopnlnohnpaaGreatDoorW.PrintWords Go.Proofs.YtaopopnlnohnpaaGreatDoorW.PrintLast Go.Proofs.YtaopopnlnohnpaaGreatDoorW.PrintMore
attribute [local go_sem] str_leq str_gtr str_geq max2_int min2_int max_two min_two max_three min_three max_four min_four
set_option linter.unusedVariables false
set_option linter.unusedSimpArgs false
open Go.Proofs.YtaopopnlnohnpaaGreatDoor.O
attribute [local go_sem high] eqA41
def response_Parse.j0 : Nat → ByteArray → Int → Bool → Option (Int × (List (S41)) × ByteArray × Int)
  | 0, _, _, _ => none
  | k + 1, x5, x7, x26 => if x26 = true then (some (0, ([] : List (S41)), (⟨#[]⟩ : ByteArray), 200)) else ((field_Parse.f x5).bind fun bt162 => (if bt162.2.2 = 0 then ((response_bare.f x7).bind fun t168 => (if t168 = true then ((response_lengths.f k bt162.1).bind fun t169 => (if t169 > 0 then (some (0, ([] : List (S41)), (⟨#[]⟩ : ByteArray), 190)) else (if bt162.2.1.toList = ([] : List UInt8) then (some (x7, bt162.1, bt162.2.1, 0)) else (some (0, ([] : List (S41)), (⟨#[]⟩ : ByteArray), 190))))) else ((response_lengths.f k bt162.1).bind fun t170 => (if t170 = 1 then (if 0 ≤ (wrap64 ((bt162.1.length : Int) - 1)) then (if (wrap64 ((bt162.1.length : Int) - 1)) < (bt162.1.length : Int) then ((strconv_Itoa.f (bt162.2.1.size : Int)).bind fun t172 => (if (!((((rd_T41 bt162.1 (wrap64 ((bt162.1.length : Int) - 1))).f0).toList) == ([99, 111, 110, 116, 101, 110, 116, 45, 108, 101, 110, 103, 116, 104] : List UInt8)) || (!((((rd_T41 bt162.1 (wrap64 ((bt162.1.length : Int) - 1))).f1).toList) == t172.toList))) = true then (some (0, ([] : List (S41)), (⟨#[]⟩ : ByteArray), 190)) else (if (bt162.2.1.size : Int) > 100000 then (some (0, ([] : List (S41)), (⟨#[]⟩ : ByteArray), 190)) else (if (wrap64 ((bt162.1.length : Int) - 1)) ≤ (bt162.1.length : Int) then (some (x7, (bt162.1.take ((wrap64 ((bt162.1.length : Int) - 1)) : Int).toNat), bt162.2.1, 0)) else (none))))) else (none)) else (none)) else (some (0, ([] : List (S41)), (⟨#[]⟩ : ByteArray), 190)))))) else (some (0, ([] : List (S41)), (⟨#[]⟩ : ByteArray), bt162.2.2))))
def response_Parse.f (k : Nat) (a0 : ByteArray) : Option (Int × (List (S41)) × ByteArray × Int) := (strings_Cut.f a0 (⟨#[13, 10]⟩ : ByteArray)).bind fun bt158 => ((response_status.f bt158.1).bind fun t161 => (if bt158.2.2 = true then (response_Parse.j0 k bt158.2.1 t161 (t161 == 0)) else (response_Parse.j0 k bt158.2.1 t161 true)))
def response_Parse.T14 : Bool × List (List Nat × List Nat) := (true, [([], []), ([0], [0]), ([1], [1]), ([2, 1], [2]), ([3], [3]), ([3], [3]), ([4, 5, 3], [3, 4, 5]), ([6, 3], [3, 6]), ([3], [3]), ([8, 3], [3, 8]), ([9, 3, 3], [3, 9]), ([10, 3], [3, 10]), ([7, 11, 3], [3, 7, 11]), ([3, 12], [3, 12]), ([13, 10], [13]), ([14], [14]), ([15, 14], [14, 15]), ([16, 14], [14, 16]), ([14, 17], [14, 17])])
def response_Parse.B14 : List Nat := [0, 1, 3, 7, 15, 15, 63, 127, 15, 271, 783, 1807, 4095, 8191, 16383, 32767, 65535, 131071, 262143]
theorem response_Parse.tab14 : rtab .any (opsOf Tryz.f13 14) = response_Parse.T14 := by kernel_rfl
theorem response_Parse.bits14 : waitsOk response_Parse.T14.2 response_Parse.B14 = true := by kernel_rfl
set_option maxHeartbeats 8000000 in
set_option maxRecDepth 100000 in
theorem response_Parse.calls (k : Nat) (a0 : ByteArray) (r1 : Int) (r2 : List (S41)) (r3 : ByteArray) (r4 : Int) (w : World) (hG : Glob w) (h : response_Parse.f k a0 = some (r1, r2, r3, r4)) :
  Calls Tryz.prog 13 #[.string a0] w fun e w' => ∃ v1_ : Value, e = .returned (.tuple #[.agg #[.int .i64 r1, v1_, .string r3], .int .i64 r4]) ∧ Kd.R k41 41 w' w.heap.size (fun _ => True) v1_ r2 ∧ Below w.heap.size w w' := by
 have hu24 := Tryz.underlying24
 have hu41 := Tryz.underlying41
 have HB := Aside0.mk (Below.refl w.heap.size w)
 have hGA := Aside0.mk hG
 clear hG
 have H : ((strings_Cut.f a0 (⟨#[13, 10]⟩ : ByteArray)).bind fun bt158 => ((response_status.f bt158.1).bind fun t161 => (if bt158.2.2 = true then (response_Parse.j0 k bt158.2.1 t161 (t161 == 0)) else (response_Parse.j0 k bt158.2.1 t161 true)))) = some (r1, r2, r3, r4) := h
 clear h
 replace H := Option.bind_eq_some_iff.mp H
 obtain ⟨⟨t158, t159, t160⟩, A20, H⟩ := H
 replace H : ((response_status.f t158).bind fun t161 => (if t160 = true then (response_Parse.j0 k t159 t161 (t161 == 0)) else (response_Parse.j0 k t159 t161 true))) = some (r1, r2, r3, r4) := H
 have A2 := Aside0.mk A20
 clear A20
 replace H := Option.bind_eq_some_iff.mp H
 obtain ⟨t161, A30, H⟩ := H
 replace H : (if t160 = true then (response_Parse.j0 k t159 t161 (t161 == 0)) else (response_Parse.j0 k t159 t161 true)) = some (r1, r2, r3, r4) := H
 have A3 := Aside0.mk A30
 clear A30
 have HC4 := Aside0.mk H
 clear H
 go_enter Tryz.func13, Tryz.ntmps13
 go_upto_region 3 with (first | ((with_reducible refine gate_dst (N := 2) rfl ?_); (try (refine gate_guard (by rfl) ?_; dsimp only)); refine box_event ?hg (N := 2) ?hd (cs := #[.int .i64 0, .slice none 0 0, .string (⟨#[]⟩ : ByteArray)]) (t := 24) ?hr ?_; (case hd => rfl); (case hg => rfl); (case hr => first | (go_simp; done) | (go_simp; rfl)); intro gb157 hg w5 hbox hb; have n0_ := Aside0.mk (below_step zb1 hb); have n1_ := Aside0.mk (hbox); have n2_ := Aside0.mk ((by rw [hg]; exact (below_size zb1) : w.heap.size ≤ gb157)); have n3_ := Aside0.mk ((by rw [hg]; exact (below_size zb1) : w.heap.size ≤ gb157)); clear HB; have HB := n0_; have BK157 := n1_; have GW157 := n2_; have GE157 := n3_; clear n0_ n1_ n2_ n3_; clear hb hbox hg) | ((with_reducible refine gate_callee (f := 27) rfl ?_); refine goesL_ (some 15) rfl rfl Tryz.func27 zb11 rfl #[.string a0, .string (⟨#[13, 10]⟩ : ByteArray)] rfl zb0 ?_; (with_reducible refine (strings_Cut.calls a0 (⟨#[13, 10]⟩ : ByteArray) t158 t159 t160 _ ?side1 A2.out).mono ?_); (case side1 => exact Glob.below hGA.out zb3); rintro e w6 ⟨rfl, hb⟩; refine ⟨_, rfl, ?_⟩; have n0_ := Aside0.mk (blk_below (g := gb157) (o := .cells #[.int .i64 0, .slice none 0 0, .string (⟨#[]⟩ : ByteArray)] 24 (0, 0)) zb7 hb); have n1_ := Aside0.mk (below_step zb3 hb); clear BK157; clear HB; have BK157 := n0_; have HB := n1_; clear n0_ n1_; (try clear hb); (try clear hb2); (try clear hk); (try clear hi)) | ((with_reducible refine gate_callee (f := 28) rfl ?_); refine goesL_ (some 20) rfl rfl Tryz.func28 zb11 rfl #[.string t158] rfl zb0 ?_; (with_reducible refine (response_status.calls t158 t161 _ ?side1 A3.out).mono ?_); (case side1 => exact Glob.below hGA.out zb3); rintro e w7 ⟨rfl, hb⟩; refine ⟨_, rfl, ?_⟩; have n0_ := Aside0.mk (blk_below (g := gb157) (o := .cells #[.int .i64 0, .slice none 0 0, .string (⟨#[]⟩ : ByteArray)] 24 (0, 0)) zb7 hb); have n1_ := Aside0.mk (below_step zb3 hb); clear BK157; clear HB; have BK157 := n0_; have HB := n1_; clear n0_ n1_; (try clear hb); (try clear hb2); (try clear hk); (try clear hi)))
 (try simp only [Act.put, List.setIfInBounds_toArray, List.set_cons_zero, List.set_cons_succ])
 go_cut [26] (fun v26 wc => ∃ (kq : Nat) (x26_3 : Bool), v26 = .bool x26_3 ∧ Aside0 (response_Parse.j0 kq t159 t161 x26_3 = some (r1, r2, r3, r4)) ∧ Aside0 (kq ≤ k) ∧ Aside0 (wc.heap[gb157]? = some (.cells #[.int .i64 0, (.slice none 0 0), .string (⟨#[]⟩ : ByteArray)] 24 (0, 0))) ∧ Aside0 (Below w.heap.size w wc))
 case first =>
  have H := HC4.out
  clear HC4
  by_cases c8 : t160 = true
  ·subst c8
   replace H : (response_Parse.j0 k t159 t161 (t161 == 0)) = some (r1, r2, r3, r4) := by rw [if_pos rfl] at H; exact H
   have H' := Aside0.mk H
   clear H
   go_wp2
   go_meet
   case rel => exact ⟨_, ((t161 == 0)), zb12, H', ⟨by first | omega | exact Nat.le_refl _⟩, ⟨by (with_reducible repeat (first | refine blk_drewN ?_ _ | refine blk_drew ?_ | refine blk_alloc ?_ _)); exact BK157.out⟩, ⟨by repeat (first | (with_reducible first | exact HB.out | apply below_alloc | apply pw_below_drewN | apply below_drew1 | refine below_set ?_ GE157.out) | exact HB.out | exact ⟨HB.out.os, HB.out.tape, HB.out.output, HB.out.size, HB.out.block⟩)⟩⟩
  ·replace c8 := Bool.eq_false_iff.mpr c8
   subst c8
   replace H : (response_Parse.j0 k t159 t161 true) = some (r1, r2, r3, r4) := by rw [if_neg (show ¬ (false = true) by decide)] at H; exact H
   have H' := Aside0.mk H
   clear H
   go_wp2
   go_meet
   case rel => exact ⟨_, (true), zb12, H', ⟨by first | omega | exact Nat.le_refl _⟩, ⟨by (with_reducible repeat (first | refine blk_drewN ?_ _ | refine blk_drew ?_ | refine blk_alloc ?_ _)); exact BK157.out⟩, ⟨by repeat (first | (with_reducible first | exact HB.out | apply below_alloc | apply pw_below_drewN | apply below_drew1 | refine below_set ?_ GE157.out) | exact HB.out | exact ⟨HB.out.os, HB.out.tape, HB.out.output, HB.out.size, HB.out.block⟩)⟩⟩
 case rest =>
  clear HC4
  try clear c1
  try clear c2
  try clear p2
  try clear c8
  obtain ⟨kq, x26_3, rfl, HA, HJ3, BK157, HB⟩ := hcut
  cases kq with
  | zero => exact absurd HA.out (by simp [response_Parse.j0])
  | succ kj3 =>
   have H := HA.out
   clear HA
   simp only [response_Parse.j0] at H
   by_cases c9 : x26_3 = true
   ·subst c9
    replace H : (some (0, ([] : List (S41)), (⟨#[]⟩ : ByteArray), 200)) = some (r1, r2, r3, r4) := by rw [if_pos rfl] at H; exact H
    simp only [Option.some.injEq, Prod.mk.injEq] at H
    obtain ⟨rfl, rfl, rfl, rfl⟩ := H
    have hcz10_0 : wc.cell? ⟨gb157, 0, none⟩ = some (.int .i64 0) := (blk_cell BK157.out 0).trans rfl
    have hcz10_1 : wc.cell? ⟨gb157, 1, none⟩ = some (.slice none 0 0) := (blk_cell BK157.out 1).trans rfl
    have hcz10_2 : wc.cell? ⟨gb157, 2, none⟩ = some (.string (⟨#[]⟩ : ByteArray)) := (blk_cell BK157.out 2).trans rfl
    have hfz10_0 := blk_frozen BK157.out 0
    have hfz10_1 := blk_frozen BK157.out 1
    have hfz10_2 := blk_frozen BK157.out 2
    go_wp2
    refine bodyPost_ret (results_ct rfl _ _ gb157 24 #[.int .i64 0, .slice none 0 0, .string (⟨#[]⟩ : ByteArray)] (0, 0) _ rfl zb10 Tryz.underlying24 rfl zb11) rfl ?_
    exact ⟨_, by first | rfl | (simp [errW_none, errW_some, bne_nil_] <;> rfl) | (simp [*, errW_none, errW_some] <;> rfl), by first | exact Kd.R_nil _ _ _ _ _ | exact Kd.N_nil _ _ _ _ _ | exact Kd.V_nil _ _ _ _ _ | exact Kd.Q_nil _ _ _ _ _ | exact Kd.S_nil _ _ _ _ _, zb3⟩
   ·replace c9 := Bool.eq_false_iff.mpr c9
    subst c9
    replace H : ((field_Parse.f t159).bind fun bt162 => (if bt162.2.2 = 0 then ((response_bare.f t161).bind fun t168 => (if t168 = true then ((response_lengths.f kj3 bt162.1).bind fun t169 => (if t169 > 0 then (some (0, ([] : List (S41)), (⟨#[]⟩ : ByteArray), 190)) else (if bt162.2.1.toList = ([] : List UInt8) then (some (t161, bt162.1, bt162.2.1, 0)) else (some (0, ([] : List (S41)), (⟨#[]⟩ : ByteArray), 190))))) else ((response_lengths.f kj3 bt162.1).bind fun t170 => (if t170 = 1 then (if 0 ≤ (wrap64 ((bt162.1.length : Int) - 1)) then (if (wrap64 ((bt162.1.length : Int) - 1)) < (bt162.1.length : Int) then ((strconv_Itoa.f (bt162.2.1.size : Int)).bind fun t172 => (if (!((((rd_T41 bt162.1 (wrap64 ((bt162.1.length : Int) - 1))).f0).toList) == ([99, 111, 110, 116, 101, 110, 116, 45, 108, 101, 110, 103, 116, 104] : List UInt8)) || (!((((rd_T41 bt162.1 (wrap64 ((bt162.1.length : Int) - 1))).f1).toList) == t172.toList))) = true then (some (0, ([] : List (S41)), (⟨#[]⟩ : ByteArray), 190)) else (if (bt162.2.1.size : Int) > 100000 then (some (0, ([] : List (S41)), (⟨#[]⟩ : ByteArray), 190)) else (if (wrap64 ((bt162.1.length : Int) - 1)) ≤ (bt162.1.length : Int) then (some (t161, (bt162.1.take ((wrap64 ((bt162.1.length : Int) - 1)) : Int).toNat), bt162.2.1, 0)) else (none))))) else (none)) else (none)) else (some (0, ([] : List (S41)), (⟨#[]⟩ : ByteArray), 190)))))) else (some (0, ([] : List (S41)), (⟨#[]⟩ : ByteArray), bt162.2.2)))) = some (r1, r2, r3, r4) := by rw [if_neg (show ¬ (false = true) by decide)] at H; exact H
    replace H := Option.bind_eq_some_iff.mp H
    obtain ⟨⟨t162, t163, t164⟩, A110, H⟩ := H
    replace H : (if t164 = 0 then ((response_bare.f t161).bind fun t168 => (if t168 = true then ((response_lengths.f kj3 t162).bind fun t169 => (if t169 > 0 then (some (0, ([] : List (S41)), (⟨#[]⟩ : ByteArray), 190)) else (if t163.toList = ([] : List UInt8) then (some (t161, t162, t163, 0)) else (some (0, ([] : List (S41)), (⟨#[]⟩ : ByteArray), 190))))) else ((response_lengths.f kj3 t162).bind fun t170 => (if t170 = 1 then (if 0 ≤ (wrap64 ((t162.length : Int) - 1)) then (if (wrap64 ((t162.length : Int) - 1)) < (t162.length : Int) then ((strconv_Itoa.f (t163.size : Int)).bind fun t172 => (if (!((((rd_T41 t162 (wrap64 ((t162.length : Int) - 1))).f0).toList) == ([99, 111, 110, 116, 101, 110, 116, 45, 108, 101, 110, 103, 116, 104] : List UInt8)) || (!((((rd_T41 t162 (wrap64 ((t162.length : Int) - 1))).f1).toList) == t172.toList))) = true then (some (0, ([] : List (S41)), (⟨#[]⟩ : ByteArray), 190)) else (if (t163.size : Int) > 100000 then (some (0, ([] : List (S41)), (⟨#[]⟩ : ByteArray), 190)) else (if (wrap64 ((t162.length : Int) - 1)) ≤ (t162.length : Int) then (some (t161, (t162.take ((wrap64 ((t162.length : Int) - 1)) : Int).toNat), t163, 0)) else (none))))) else (none)) else (none)) else (some (0, ([] : List (S41)), (⟨#[]⟩ : ByteArray), 190)))))) else (some (0, ([] : List (S41)), (⟨#[]⟩ : ByteArray), t164))) = some (r1, r2, r3, r4) := H
    have A11 := Aside0.mk A110
    clear A110
    by_cases c12 : t164 = 0
    ·rw [if_pos c12] at H
     have c12b0 : (t164 == 0) = true := beq_iff_eq.mpr c12
     have c12b1 : (t164 != 0) = false := bne_eq_false_iff_eq.mpr c12
     clear c12
     replace H := Option.bind_eq_some_iff.mp H
     obtain ⟨t168, A130, H⟩ := H
     replace H : (if t168 = true then ((response_lengths.f kj3 t162).bind fun t169 => (if t169 > 0 then (some (0, ([] : List (S41)), (⟨#[]⟩ : ByteArray), 190)) else (if t163.toList = ([] : List UInt8) then (some (t161, t162, t163, 0)) else (some (0, ([] : List (S41)), (⟨#[]⟩ : ByteArray), 190))))) else ((response_lengths.f kj3 t162).bind fun t170 => (if t170 = 1 then (if 0 ≤ (wrap64 ((t162.length : Int) - 1)) then (if (wrap64 ((t162.length : Int) - 1)) < (t162.length : Int) then ((strconv_Itoa.f (t163.size : Int)).bind fun t172 => (if (!((((rd_T41 t162 (wrap64 ((t162.length : Int) - 1))).f0).toList) == ([99, 111, 110, 116, 101, 110, 116, 45, 108, 101, 110, 103, 116, 104] : List UInt8)) || (!((((rd_T41 t162 (wrap64 ((t162.length : Int) - 1))).f1).toList) == t172.toList))) = true then (some (0, ([] : List (S41)), (⟨#[]⟩ : ByteArray), 190)) else (if (t163.size : Int) > 100000 then (some (0, ([] : List (S41)), (⟨#[]⟩ : ByteArray), 190)) else (if (wrap64 ((t162.length : Int) - 1)) ≤ (t162.length : Int) then (some (t161, (t162.take ((wrap64 ((t162.length : Int) - 1)) : Int).toNat), t163, 0)) else (none))))) else (none)) else (none)) else (some (0, ([] : List (S41)), (⟨#[]⟩ : ByteArray), 190))))) = some (r1, r2, r3, r4) := H
     have A13 := Aside0.mk A130
     clear A130
     by_cases c14 : t168 = true
     ·subst c14
      replace H : ((response_lengths.f kj3 t162).bind fun t169 => (if t169 > 0 then (some (0, ([] : List (S41)), (⟨#[]⟩ : ByteArray), 190)) else (if t163.toList = ([] : List UInt8) then (some (t161, t162, t163, 0)) else (some (0, ([] : List (S41)), (⟨#[]⟩ : ByteArray), 190))))) = some (r1, r2, r3, r4) := by rw [if_pos rfl] at H; exact H
      replace H := Option.bind_eq_some_iff.mp H
      obtain ⟨t169, A150, H⟩ := H
      replace H : (if t169 > 0 then (some (0, ([] : List (S41)), (⟨#[]⟩ : ByteArray), 190)) else (if t163.toList = ([] : List UInt8) then (some (t161, t162, t163, 0)) else (some (0, ([] : List (S41)), (⟨#[]⟩ : ByteArray), 190)))) = some (r1, r2, r3, r4) := H
      have A15 := Aside0.mk A150
      clear A150
      by_cases c16 : t169 > 0
      ·rw [if_pos c16] at H
       have c16b0 : decide (0 < t169) = true := decide_eq_true c16
       clear c16
       simp only [Option.some.injEq, Prod.mk.injEq] at H
       obtain ⟨rfl, rfl, rfl, rfl⟩ := H
       go_wp2_with (first | ((with_reducible refine gate_callee (f := 29) rfl ?_); refine goesL_ (some 30) rfl rfl Tryz.func29 zb11 rfl #[.string t159] rfl zb0 ?_; (with_reducible refine (field_Parse.calls t159 t162 t163 t164 _ ?side1 A11.out).mono ?_); (case side1 => exact Glob.below hGA.out zb3); rintro e w17 ⟨v165, rfl, ho0, hb⟩; refine ⟨_, rfl, ?_⟩; have n0_ := Aside0.mk (Kd.R_lower ho0 (below_size zb3)); have n1_ := Aside0.mk (blk_below (g := gb157) (o := .cells #[.int .i64 0, .slice none 0 0, .string (⟨#[]⟩ : ByteArray)] 24 (0, 0)) zb7 hb); have n2_ := Aside0.mk (below_step zb3 hb); clear BK157; clear HB; have HO166 := n0_; have BK157 := n1_; have HB := n2_; clear n0_ n1_ n2_; (try clear hb); (try clear hb2); (try clear hk); (try clear hi); (try clear ho0); obtain ⟨Ao18, co18, eo18⟩ := Kd.R_slice HO166.out; subst eo18) | ((with_reducible refine gate_dst (N := 11) rfl ?_); (try (refine gate_guard (by rfl) ?_; dsimp only)); refine box_event ?hg (N := 11) ?hd (cs := #[.int .i64 0, .slice none 0 0, .string (⟨#[]⟩ : ByteArray)]) (t := 24) ?hr ?_; (case hd => rfl); (case hg => rfl); (case hr => first | (go_simp; done) | (go_simp; rfl)); intro gb167 hg w19 hbox hb; have n0_ := Aside0.mk (Kd.R_below zb18 hb); have n1_ := Aside0.mk (blk_below (g := gb157) (o := .cells #[.int .i64 0, .slice none 0 0, .string (⟨#[]⟩ : ByteArray)] 24 (0, 0)) zb7 hb); have n2_ := Aside0.mk (below_step zb3 hb); have n3_ := Aside0.mk (hbox); have n4_ := Aside0.mk ((by rw [hg]; exact (below_size zb3) : w.heap.size ≤ gb167)); have n5_ := Aside0.mk ((by rw [hg]; exact (below_size zb3) : w.heap.size ≤ gb167)); have n6_ := Aside0.mk ((by rw [hg]; exact Nat.ne_of_lt (blk_lt (g := gb157) (o := .cells #[.int .i64 0, .slice none 0 0, .string (⟨#[]⟩ : ByteArray)] 24 (0, 0)) zb7) : gb157 ≠ gb167)); have n7_ := Aside0.mk ((by rw [hg]; exact Nat.ne_of_gt (blk_lt (g := gb157) (o := .cells #[.int .i64 0, .slice none 0 0, .string (⟨#[]⟩ : ByteArray)] 24 (0, 0)) zb7) : gb167 ≠ gb157)); clear HO166; clear BK157; clear HB; have HO166 := n0_; have BK157 := n1_; have HB := n2_; have BK167 := n3_; have GW167 := n4_; have GE167 := n5_; have NB157_167 := n6_; have NB167_157 := n7_; clear n0_ n1_ n2_ n3_ n4_ n5_ n6_ n7_; clear hb hbox hg; have hnb20 := NB167_157.out; have hnc20 := NB157_167.out; have hcz21_0 : w19.cell? ⟨gb167, 0, none⟩ = some (.int .i64 0) := (blk_cell BK167.out 0).trans rfl; have hcz21_1 : w19.cell? ⟨gb167, 1, none⟩ = some (.slice none 0 0) := (blk_cell BK167.out 1).trans rfl; have hcz21_2 : w19.cell? ⟨gb167, 2, none⟩ = some (.string (⟨#[]⟩ : ByteArray)) := (blk_cell BK167.out 2).trans rfl; have hfz21_0 := blk_frozen BK167.out 0; have hfz21_1 := blk_frozen BK167.out 1; have hfz21_2 := blk_frozen BK167.out 2) | ((with_reducible refine gate_callee (f := 17) rfl ?_); refine goesL_ (some 43) rfl rfl Tryz.func17 zb11 rfl #[.int .i64 t161] rfl zb0 ?_; (with_reducible refine (response_bare.calls t161 true _ A13.out).mono ?_); rintro e w' ⟨rfl, ⟨nd, rfl⟩⟩; refine ⟨_, rfl, ?_⟩) | ((with_reducible refine gate_callee (f := 18) rfl ?_); refine goesL_ (some 45) rfl rfl Tryz.func18 zb11 rfl #[.slice Ao18 t162.length co18] rfl zb0 ?_; (with_reducible refine (response_lengths.calls kj3 _ _ t162 t169 _ ?side1 ?side2 A15.out).mono ?_); (case side1 => refine (Kd.R_reads' (e := 41) (base := w.heap.size) (ok := fun k_ => True) (n := t162.length) (c := co18) ?_).2.2; exact zb55); (case side2 => exact (Kd.R_reads' HO166.out).2.1); rintro e w22 ⟨rfl, hb⟩; refine ⟨_, rfl, ?_⟩; have n0_ := Aside0.mk (Kd.R_below zb55 hb); have n1_ := Aside0.mk (blk_below (g := gb157) (o := .cells #[.int .i64 0, .slice none 0 0, .string (⟨#[]⟩ : ByteArray)] 24 (0, 0)) zb27 hb); have n2_ := Aside0.mk (blk_below (g := gb167) (o := .cells #[.int .i64 t161, .slice Ao18 t162.length co18, .string t163] 24 (0, 0)) (by (with_reducible repeat (first | refine blk_drewN ?_ _ | refine blk_drew ?_ | refine blk_alloc ?_ _)); refine blk_put (cs := #[.int .i64 t161, .slice Ao18 t162.length co18, .string (⟨#[]⟩ : ByteArray)]) ?_ 2 _ rfl; (with_reducible repeat (first | refine blk_drewN ?_ _ | refine blk_drew ?_ | refine blk_alloc ?_ _)); refine blk_put (cs := #[.int .i64 t161, .slice none 0 0, .string (⟨#[]⟩ : ByteArray)]) ?_ 1 _ rfl; (with_reducible repeat (first | refine blk_drewN ?_ _ | refine blk_drew ?_ | refine blk_alloc ?_ _)); refine blk_put (cs := #[.int .i64 0, .slice none 0 0, .string (⟨#[]⟩ : ByteArray)]) ?_ 0 _ rfl; (with_reducible repeat (first | refine blk_drewN ?_ _ | refine blk_drew ?_ | refine blk_alloc ?_ _)); exact BK167.out) hb); have n3_ := Aside0.mk (below_step zb8 hb); clear HO166; clear BK157; clear BK167; clear HB; have HO166 := n0_; have BK157 := n1_; have BK167 := n2_; have HB := n3_; clear n0_ n1_ n2_ n3_; (try clear hb); (try clear hb2); (try clear hk); (try clear hi); have hcz23_0 : w22.cell? ⟨gb157, 0, none⟩ = some (.int .i64 0) := (blk_cell BK157.out 0).trans rfl; have hcz23_1 : w22.cell? ⟨gb157, 1, none⟩ = some (.slice none 0 0) := (blk_cell BK157.out 1).trans rfl; have hcz23_2 : w22.cell? ⟨gb157, 2, none⟩ = some (.string (⟨#[]⟩ : ByteArray)) := (blk_cell BK157.out 2).trans rfl; have hfz23_0 := blk_frozen BK157.out 0; have hfz23_1 := blk_frozen BK157.out 1; have hfz23_2 := blk_frozen BK157.out 2))
       refine bodyPost_ret (results_ct rfl _ _ gb157 24 #[.int .i64 0, .slice none 0 0, .string (⟨#[]⟩ : ByteArray)] (0, 0) _ rfl zb10 Tryz.underlying24 rfl zb11) rfl ?_
       exact ⟨_, by first | rfl | (simp [errW_none, errW_some, bne_nil_] <;> rfl) | (simp [*, errW_none, errW_some] <;> rfl), by first | exact Kd.R_nil _ _ _ _ _ | exact Kd.N_nil _ _ _ _ _ | exact Kd.V_nil _ _ _ _ _ | exact Kd.Q_nil _ _ _ _ _ | exact Kd.S_nil _ _ _ _ _, zb8⟩
      ·rw [if_neg c16] at H
       have c16b0 : decide (0 < t169) = false := decide_eq_false c16
       clear c16
       by_cases c24 : t163.toList = ([] : List UInt8)
       ·rw [if_pos c24] at H
        have c24b0 : (t163.toList == ([] : List UInt8)) = true := beq_iff_eq.mpr c24
        have c24b1 : (t163.toList != ([] : List UInt8)) = false := bne_eq_false_iff_eq.mpr c24
        clear c24
        simp only [Option.some.injEq, Prod.mk.injEq] at H
        obtain ⟨rfl, rfl, rfl, rfl⟩ := H
        go_wp2_with (first | ((with_reducible refine gate_callee (f := 29) rfl ?_); refine goesL_ (some 30) rfl rfl Tryz.func29 zb11 rfl #[.string t159] rfl zb0 ?_; (with_reducible refine (field_Parse.calls t159 t162 t163 t164 _ ?side1 A11.out).mono ?_); (case side1 => exact Glob.below hGA.out zb3); rintro e w25 ⟨v165, rfl, ho0, hb⟩; refine ⟨_, rfl, ?_⟩; have n0_ := Aside0.mk (Kd.R_lower ho0 (below_size zb3)); have n1_ := Aside0.mk (blk_below (g := gb157) (o := .cells #[.int .i64 0, .slice none 0 0, .string (⟨#[]⟩ : ByteArray)] 24 (0, 0)) zb7 hb); have n2_ := Aside0.mk (below_step zb3 hb); clear BK157; clear HB; have HO166 := n0_; have BK157 := n1_; have HB := n2_; clear n0_ n1_ n2_; (try clear hb); (try clear hb2); (try clear hk); (try clear hi); (try clear ho0); obtain ⟨Ao26, co26, eo26⟩ := Kd.R_slice HO166.out; subst eo26) | ((with_reducible refine gate_dst (N := 11) rfl ?_); (try (refine gate_guard (by rfl) ?_; dsimp only)); refine box_event ?hg (N := 11) ?hd (cs := #[.int .i64 0, .slice none 0 0, .string (⟨#[]⟩ : ByteArray)]) (t := 24) ?hr ?_; (case hd => rfl); (case hg => rfl); (case hr => first | (go_simp; done) | (go_simp; rfl)); intro gb167 hg w27 hbox hb; have n0_ := Aside0.mk (Kd.R_below zb18 hb); have n1_ := Aside0.mk (blk_below (g := gb157) (o := .cells #[.int .i64 0, .slice none 0 0, .string (⟨#[]⟩ : ByteArray)] 24 (0, 0)) zb7 hb); have n2_ := Aside0.mk (below_step zb3 hb); have n3_ := Aside0.mk (hbox); have n4_ := Aside0.mk ((by rw [hg]; exact (below_size zb3) : w.heap.size ≤ gb167)); have n5_ := Aside0.mk ((by rw [hg]; exact (below_size zb3) : w.heap.size ≤ gb167)); have n6_ := Aside0.mk ((by rw [hg]; exact Nat.ne_of_lt (blk_lt (g := gb157) (o := .cells #[.int .i64 0, .slice none 0 0, .string (⟨#[]⟩ : ByteArray)] 24 (0, 0)) zb7) : gb157 ≠ gb167)); have n7_ := Aside0.mk ((by rw [hg]; exact Nat.ne_of_gt (blk_lt (g := gb157) (o := .cells #[.int .i64 0, .slice none 0 0, .string (⟨#[]⟩ : ByteArray)] 24 (0, 0)) zb7) : gb167 ≠ gb157)); clear HO166; clear BK157; clear HB; have HO166 := n0_; have BK157 := n1_; have HB := n2_; have BK167 := n3_; have GW167 := n4_; have GE167 := n5_; have NB157_167 := n6_; have NB167_157 := n7_; clear n0_ n1_ n2_ n3_ n4_ n5_ n6_ n7_; clear hb hbox hg; have hnb28 := NB167_157.out; have hnc28 := NB157_167.out; have hcz29_0 : w27.cell? ⟨gb167, 0, none⟩ = some (.int .i64 0) := (blk_cell BK167.out 0).trans rfl; have hcz29_1 : w27.cell? ⟨gb167, 1, none⟩ = some (.slice none 0 0) := (blk_cell BK167.out 1).trans rfl; have hcz29_2 : w27.cell? ⟨gb167, 2, none⟩ = some (.string (⟨#[]⟩ : ByteArray)) := (blk_cell BK167.out 2).trans rfl; have hfz29_0 := blk_frozen BK167.out 0; have hfz29_1 := blk_frozen BK167.out 1; have hfz29_2 := blk_frozen BK167.out 2) | ((with_reducible refine gate_callee (f := 17) rfl ?_); refine goesL_ (some 43) rfl rfl Tryz.func17 zb11 rfl #[.int .i64 t161] rfl zb0 ?_; (with_reducible refine (response_bare.calls t161 true _ A13.out).mono ?_); rintro e w' ⟨rfl, ⟨nd, rfl⟩⟩; refine ⟨_, rfl, ?_⟩) | ((with_reducible refine gate_callee (f := 18) rfl ?_); refine goesL_ (some 45) rfl rfl Tryz.func18 zb11 rfl #[.slice Ao26 t162.length co26] rfl zb0 ?_; (with_reducible refine (response_lengths.calls kj3 _ _ t162 t169 _ ?side1 ?side2 A15.out).mono ?_); (case side1 => refine (Kd.R_reads' (e := 41) (base := w.heap.size) (ok := fun k_ => True) (n := t162.length) (c := co26) ?_).2.2; exact zb54); (case side2 => exact (Kd.R_reads' HO166.out).2.1); rintro e w30 ⟨rfl, hb⟩; refine ⟨_, rfl, ?_⟩; have n0_ := Aside0.mk (Kd.R_below zb54 hb); have n1_ := Aside0.mk (blk_below (g := gb157) (o := .cells #[.int .i64 0, .slice none 0 0, .string (⟨#[]⟩ : ByteArray)] 24 (0, 0)) zb27 hb); have n2_ := Aside0.mk (blk_below (g := gb167) (o := .cells #[.int .i64 t161, .slice Ao26 t162.length co26, .string t163] 24 (0, 0)) (by (with_reducible repeat (first | refine blk_drewN ?_ _ | refine blk_drew ?_ | refine blk_alloc ?_ _)); refine blk_put (cs := #[.int .i64 t161, .slice Ao26 t162.length co26, .string (⟨#[]⟩ : ByteArray)]) ?_ 2 _ rfl; (with_reducible repeat (first | refine blk_drewN ?_ _ | refine blk_drew ?_ | refine blk_alloc ?_ _)); refine blk_put (cs := #[.int .i64 t161, .slice none 0 0, .string (⟨#[]⟩ : ByteArray)]) ?_ 1 _ rfl; (with_reducible repeat (first | refine blk_drewN ?_ _ | refine blk_drew ?_ | refine blk_alloc ?_ _)); refine blk_put (cs := #[.int .i64 0, .slice none 0 0, .string (⟨#[]⟩ : ByteArray)]) ?_ 0 _ rfl; (with_reducible repeat (first | refine blk_drewN ?_ _ | refine blk_drew ?_ | refine blk_alloc ?_ _)); exact BK167.out) hb); have n3_ := Aside0.mk (below_step zb8 hb); clear HO166; clear BK157; clear BK167; clear HB; have HO166 := n0_; have BK157 := n1_; have BK167 := n2_; have HB := n3_; clear n0_ n1_ n2_ n3_; (try clear hb); (try clear hb2); (try clear hk); (try clear hi); have hcz31_0 : w30.cell? ⟨gb167, 0, none⟩ = some (.int .i64 t161) := (blk_cell BK167.out 0).trans rfl; have hcz31_1 : w30.cell? ⟨gb167, 1, none⟩ = some (.slice Ao26 t162.length co26) := (blk_cell BK167.out 1).trans rfl; have hcz31_2 : w30.cell? ⟨gb167, 2, none⟩ = some (.string t163) := (blk_cell BK167.out 2).trans rfl; have hfz31_0 := blk_frozen BK167.out 0; have hfz31_1 := blk_frozen BK167.out 1; have hfz31_2 := blk_frozen BK167.out 2; have hcz32_0 : w30.cell? ⟨gb157, 0, none⟩ = some (.int .i64 0) := (blk_cell BK157.out 0).trans rfl; have hcz32_1 : w30.cell? ⟨gb157, 1, none⟩ = some (.slice none 0 0) := (blk_cell BK157.out 1).trans rfl; have hcz32_2 : w30.cell? ⟨gb157, 2, none⟩ = some (.string (⟨#[]⟩ : ByteArray)) := (blk_cell BK157.out 2).trans rfl; have hfz32_0 := blk_frozen BK157.out 0; have hfz32_1 := blk_frozen BK157.out 1; have hfz32_2 := blk_frozen BK157.out 2))
        refine bodyPost_ret (results_ct rfl _ _ gb157 24 #[.int .i64 t161, .slice Ao26 t162.length co26, .string t163] (0, 0) _ rfl (by (with_reducible repeat (first | refine blk_drewN ?_ _ | refine blk_drew ?_ | refine blk_alloc ?_ _)); refine blk_put (cs := #[.int .i64 t161, .slice Ao26 t162.length co26, .string (⟨#[]⟩ : ByteArray)]) ?_ 2 _ rfl; (with_reducible repeat (first | refine blk_drewN ?_ _ | refine blk_drew ?_ | refine blk_alloc ?_ _)); refine blk_put (cs := #[.int .i64 t161, .slice none 0 0, .string (⟨#[]⟩ : ByteArray)]) ?_ 1 _ rfl; (with_reducible repeat (first | refine blk_drewN ?_ _ | refine blk_drew ?_ | refine blk_alloc ?_ _)); refine blk_put (cs := #[.int .i64 0, .slice none 0 0, .string (⟨#[]⟩ : ByteArray)]) ?_ 0 _ rfl; (with_reducible repeat (first | refine blk_drewN ?_ _ | refine blk_drew ?_ | refine blk_alloc ?_ _)); exact BK157.out) Tryz.underlying24 rfl zb11) rfl ?_
        exact ⟨_, by first | rfl | (simp [errW_none, errW_some, bne_nil_] <;> rfl) | (simp [*, errW_none, errW_some] <;> rfl), by (with_reducible repeat (first | apply Kd.R_alloc | apply Kd.R_drewN | apply Kd.R_drew)); exact Kd.R_mono (Kd.R_far (p := ⟨gb157, 2, none⟩) (Kd.R_far (p := ⟨gb157, 1, none⟩) (Kd.R_far (p := ⟨gb157, 0, none⟩) (Kd.R_types HO166.out BK157.out zb39) (fun _ hk => hk.2) (.int .i64 t161)) (fun _ hk => hk.2) (.slice Ao26 t162.length co26)) (fun _ hk => hk.2) (.string t163)) (fun _ hk => trivial), zb8⟩
       ·rw [if_neg c24] at H
        have c24b0 : (t163.toList == ([] : List UInt8)) = false := beq_eq_false_iff_ne.mpr c24
        have c24b1 : (t163.toList != ([] : List UInt8)) = true := bne_iff_ne.mpr c24
        simp only [Option.some.injEq, Prod.mk.injEq] at H
        obtain ⟨rfl, rfl, rfl, rfl⟩ := H
        go_wp2_with (first | ((with_reducible refine gate_callee (f := 29) rfl ?_); refine goesL_ (some 30) rfl rfl Tryz.func29 zb11 rfl #[.string t159] rfl zb0 ?_; (with_reducible refine (field_Parse.calls t159 t162 t163 t164 _ ?side1 A11.out).mono ?_); (case side1 => exact Glob.below hGA.out zb3); rintro e w33 ⟨v165, rfl, ho0, hb⟩; refine ⟨_, rfl, ?_⟩; have n0_ := Aside0.mk (Kd.R_lower ho0 (below_size zb3)); have n1_ := Aside0.mk (blk_below (g := gb157) (o := .cells #[.int .i64 0, .slice none 0 0, .string (⟨#[]⟩ : ByteArray)] 24 (0, 0)) zb7 hb); have n2_ := Aside0.mk (below_step zb3 hb); clear BK157; clear HB; have HO166 := n0_; have BK157 := n1_; have HB := n2_; clear n0_ n1_ n2_; (try clear hb); (try clear hb2); (try clear hk); (try clear hi); (try clear ho0); obtain ⟨Ao34, co34, eo34⟩ := Kd.R_slice HO166.out; subst eo34) | ((with_reducible refine gate_dst (N := 11) rfl ?_); (try (refine gate_guard (by rfl) ?_; dsimp only)); refine box_event ?hg (N := 11) ?hd (cs := #[.int .i64 0, .slice none 0 0, .string (⟨#[]⟩ : ByteArray)]) (t := 24) ?hr ?_; (case hd => rfl); (case hg => rfl); (case hr => first | (go_simp; done) | (go_simp; rfl)); intro gb167 hg w35 hbox hb; have n0_ := Aside0.mk (Kd.R_below zb18 hb); have n1_ := Aside0.mk (blk_below (g := gb157) (o := .cells #[.int .i64 0, .slice none 0 0, .string (⟨#[]⟩ : ByteArray)] 24 (0, 0)) zb7 hb); have n2_ := Aside0.mk (below_step zb3 hb); have n3_ := Aside0.mk (hbox); have n4_ := Aside0.mk ((by rw [hg]; exact (below_size zb3) : w.heap.size ≤ gb167)); have n5_ := Aside0.mk ((by rw [hg]; exact (below_size zb3) : w.heap.size ≤ gb167)); have n6_ := Aside0.mk ((by rw [hg]; exact Nat.ne_of_lt (blk_lt (g := gb157) (o := .cells #[.int .i64 0, .slice none 0 0, .string (⟨#[]⟩ : ByteArray)] 24 (0, 0)) zb7) : gb157 ≠ gb167)); have n7_ := Aside0.mk ((by rw [hg]; exact Nat.ne_of_gt (blk_lt (g := gb157) (o := .cells #[.int .i64 0, .slice none 0 0, .string (⟨#[]⟩ : ByteArray)] 24 (0, 0)) zb7) : gb167 ≠ gb157)); clear HO166; clear BK157; clear HB; have HO166 := n0_; have BK157 := n1_; have HB := n2_; have BK167 := n3_; have GW167 := n4_; have GE167 := n5_; have NB157_167 := n6_; have NB167_157 := n7_; clear n0_ n1_ n2_ n3_ n4_ n5_ n6_ n7_; clear hb hbox hg; have hnb36 := NB167_157.out; have hnc36 := NB157_167.out; have hcz37_0 : w35.cell? ⟨gb167, 0, none⟩ = some (.int .i64 0) := (blk_cell BK167.out 0).trans rfl; have hcz37_1 : w35.cell? ⟨gb167, 1, none⟩ = some (.slice none 0 0) := (blk_cell BK167.out 1).trans rfl; have hcz37_2 : w35.cell? ⟨gb167, 2, none⟩ = some (.string (⟨#[]⟩ : ByteArray)) := (blk_cell BK167.out 2).trans rfl; have hfz37_0 := blk_frozen BK167.out 0; have hfz37_1 := blk_frozen BK167.out 1; have hfz37_2 := blk_frozen BK167.out 2) | ((with_reducible refine gate_callee (f := 17) rfl ?_); refine goesL_ (some 43) rfl rfl Tryz.func17 zb11 rfl #[.int .i64 t161] rfl zb0 ?_; (with_reducible refine (response_bare.calls t161 true _ A13.out).mono ?_); rintro e w' ⟨rfl, ⟨nd, rfl⟩⟩; refine ⟨_, rfl, ?_⟩) | ((with_reducible refine gate_callee (f := 18) rfl ?_); refine goesL_ (some 45) rfl rfl Tryz.func18 zb11 rfl #[.slice Ao34 t162.length co34] rfl zb0 ?_; (with_reducible refine (response_lengths.calls kj3 _ _ t162 t169 _ ?side1 ?side2 A15.out).mono ?_); (case side1 => refine (Kd.R_reads' (e := 41) (base := w.heap.size) (ok := fun k_ => True) (n := t162.length) (c := co34) ?_).2.2; exact zb53); (case side2 => exact (Kd.R_reads' HO166.out).2.1); rintro e w38 ⟨rfl, hb⟩; refine ⟨_, rfl, ?_⟩; have n0_ := Aside0.mk (Kd.R_below zb53 hb); have n1_ := Aside0.mk (blk_below (g := gb157) (o := .cells #[.int .i64 0, .slice none 0 0, .string (⟨#[]⟩ : ByteArray)] 24 (0, 0)) zb27 hb); have n2_ := Aside0.mk (blk_below (g := gb167) (o := .cells #[.int .i64 t161, .slice Ao34 t162.length co34, .string t163] 24 (0, 0)) (by (with_reducible repeat (first | refine blk_drewN ?_ _ | refine blk_drew ?_ | refine blk_alloc ?_ _)); refine blk_put (cs := #[.int .i64 t161, .slice Ao34 t162.length co34, .string (⟨#[]⟩ : ByteArray)]) ?_ 2 _ rfl; (with_reducible repeat (first | refine blk_drewN ?_ _ | refine blk_drew ?_ | refine blk_alloc ?_ _)); refine blk_put (cs := #[.int .i64 t161, .slice none 0 0, .string (⟨#[]⟩ : ByteArray)]) ?_ 1 _ rfl; (with_reducible repeat (first | refine blk_drewN ?_ _ | refine blk_drew ?_ | refine blk_alloc ?_ _)); refine blk_put (cs := #[.int .i64 0, .slice none 0 0, .string (⟨#[]⟩ : ByteArray)]) ?_ 0 _ rfl; (with_reducible repeat (first | refine blk_drewN ?_ _ | refine blk_drew ?_ | refine blk_alloc ?_ _)); exact BK167.out) hb); have n3_ := Aside0.mk (below_step zb8 hb); clear HO166; clear BK157; clear BK167; clear HB; have HO166 := n0_; have BK157 := n1_; have BK167 := n2_; have HB := n3_; clear n0_ n1_ n2_ n3_; (try clear hb); (try clear hb2); (try clear hk); (try clear hi); have hcz39_0 : w38.cell? ⟨gb157, 0, none⟩ = some (.int .i64 0) := (blk_cell BK157.out 0).trans rfl; have hcz39_1 : w38.cell? ⟨gb157, 1, none⟩ = some (.slice none 0 0) := (blk_cell BK157.out 1).trans rfl; have hcz39_2 : w38.cell? ⟨gb157, 2, none⟩ = some (.string (⟨#[]⟩ : ByteArray)) := (blk_cell BK157.out 2).trans rfl; have hfz39_0 := blk_frozen BK157.out 0; have hfz39_1 := blk_frozen BK157.out 1; have hfz39_2 := blk_frozen BK157.out 2))
        refine bodyPost_ret (results_ct rfl _ _ gb157 24 #[.int .i64 0, .slice none 0 0, .string (⟨#[]⟩ : ByteArray)] (0, 0) _ rfl zb10 Tryz.underlying24 rfl zb11) rfl ?_
        exact ⟨_, by first | rfl | (simp [errW_none, errW_some, bne_nil_] <;> rfl) | (simp [*, errW_none, errW_some] <;> rfl), by first | exact Kd.R_nil _ _ _ _ _ | exact Kd.N_nil _ _ _ _ _ | exact Kd.V_nil _ _ _ _ _ | exact Kd.Q_nil _ _ _ _ _ | exact Kd.S_nil _ _ _ _ _, zb8⟩
     ·replace c14 := Bool.eq_false_iff.mpr c14
      subst c14
      replace H : ((response_lengths.f kj3 t162).bind fun t170 => (if t170 = 1 then (if 0 ≤ (wrap64 ((t162.length : Int) - 1)) then (if (wrap64 ((t162.length : Int) - 1)) < (t162.length : Int) then ((strconv_Itoa.f (t163.size : Int)).bind fun t172 => (if (!((((rd_T41 t162 (wrap64 ((t162.length : Int) - 1))).f0).toList) == ([99, 111, 110, 116, 101, 110, 116, 45, 108, 101, 110, 103, 116, 104] : List UInt8)) || (!((((rd_T41 t162 (wrap64 ((t162.length : Int) - 1))).f1).toList) == t172.toList))) = true then (some (0, ([] : List (S41)), (⟨#[]⟩ : ByteArray), 190)) else (if (t163.size : Int) > 100000 then (some (0, ([] : List (S41)), (⟨#[]⟩ : ByteArray), 190)) else (if (wrap64 ((t162.length : Int) - 1)) ≤ (t162.length : Int) then (some (t161, (t162.take ((wrap64 ((t162.length : Int) - 1)) : Int).toNat), t163, 0)) else (none))))) else (none)) else (none)) else (some (0, ([] : List (S41)), (⟨#[]⟩ : ByteArray), 190)))) = some (r1, r2, r3, r4) := by rw [if_neg (show ¬ (false = true) by decide)] at H; exact H
      replace H := Option.bind_eq_some_iff.mp H
      obtain ⟨t170, A400, H⟩ := H
      replace H : (if t170 = 1 then (if 0 ≤ (wrap64 ((t162.length : Int) - 1)) then (if (wrap64 ((t162.length : Int) - 1)) < (t162.length : Int) then ((strconv_Itoa.f (t163.size : Int)).bind fun t172 => (if (!((((rd_T41 t162 (wrap64 ((t162.length : Int) - 1))).f0).toList) == ([99, 111, 110, 116, 101, 110, 116, 45, 108, 101, 110, 103, 116, 104] : List UInt8)) || (!((((rd_T41 t162 (wrap64 ((t162.length : Int) - 1))).f1).toList) == t172.toList))) = true then (some (0, ([] : List (S41)), (⟨#[]⟩ : ByteArray), 190)) else (if (t163.size : Int) > 100000 then (some (0, ([] : List (S41)), (⟨#[]⟩ : ByteArray), 190)) else (if (wrap64 ((t162.length : Int) - 1)) ≤ (t162.length : Int) then (some (t161, (t162.take ((wrap64 ((t162.length : Int) - 1)) : Int).toNat), t163, 0)) else (none))))) else (none)) else (none)) else (some (0, ([] : List (S41)), (⟨#[]⟩ : ByteArray), 190))) = some (r1, r2, r3, r4) := H
      have A40 := Aside0.mk A400
      clear A400
      by_cases c41 : t170 = 1
      ·rw [if_pos c41] at H
       have c41b0 : (t170 == 1) = true := beq_iff_eq.mpr c41
       have c41b1 : (t170 != 1) = false := bne_eq_false_iff_eq.mpr c41
       clear c41
       obtain ⟨ji42, hji42⟩ : ∃ j_ : Int, (wrap64 ((t162.length : Int) - 1)) = j_ := ⟨_, rfl⟩
       replace H : (if 0 ≤ (ji42) then (if (ji42) < (t162.length : Int) then ((strconv_Itoa.f (t163.size : Int)).bind fun t172 => (if (!((((rd_T41 t162 (ji42)).f0).toList) == ([99, 111, 110, 116, 101, 110, 116, 45, 108, 101, 110, 103, 116, 104] : List UInt8)) || (!((((rd_T41 t162 (ji42)).f1).toList) == t172.toList))) = true then (some (0, ([] : List (S41)), (⟨#[]⟩ : ByteArray), 190)) else (if (t163.size : Int) > 100000 then (some (0, ([] : List (S41)), (⟨#[]⟩ : ByteArray), 190)) else (if (ji42) ≤ (t162.length : Int) then (some (t161, (t162.take ((ji42) : Int).toNat), t163, 0)) else (none))))) else (none)) else (none)) = some (r1, r2, r3, r4) := by first | (rw [hji42] at H; exact H) | (simp only [hji42] at H ⊢; exact H)
       (try rw [hji42] at A11)
       (try rw [hji42] at A13)
       (try rw [hji42] at A40)
       have hji42w : (IntKind.i64.wrap ((t162.length : Int) - 1)) = ji42 := (i64_w _).trans hji42
       by_cases c43 : 0 ≤ (ji42)
       ·rw [if_pos c43] at H
        have c43b0 : decide (0 ≤ (ji42)) = true := decide_eq_true c43
        clear c43
        by_cases c44 : (ji42) < (t162.length : Int)
        ·rw [if_pos c44] at H
         have c44b0 : decide ((ji42) < (t162.length : Int)) = true := decide_eq_true c44
         clear c44
         replace H := Option.bind_eq_some_iff.mp H
         obtain ⟨t172, A450, H⟩ := H
         replace H : (if (!((((rd_T41 t162 (ji42)).f0).toList) == ([99, 111, 110, 116, 101, 110, 116, 45, 108, 101, 110, 103, 116, 104] : List UInt8)) || (!((((rd_T41 t162 (ji42)).f1).toList) == t172.toList))) = true then (some (0, ([] : List (S41)), (⟨#[]⟩ : ByteArray), 190)) else (if (t163.size : Int) > 100000 then (some (0, ([] : List (S41)), (⟨#[]⟩ : ByteArray), 190)) else (if (ji42) ≤ (t162.length : Int) then (some (t161, (t162.take ((ji42) : Int).toNat), t163, 0)) else (none)))) = some (r1, r2, r3, r4) := H
         have A45 := Aside0.mk A450
         clear A450
         by_cases c46 : (!((((rd_T41 t162 (ji42)).f0).toList) == ([99, 111, 110, 116, 101, 110, 116, 45, 108, 101, 110, 103, 116, 104] : List UInt8)) || (!((((rd_T41 t162 (ji42)).f1).toList) == t172.toList))) = true
         ·rw [if_pos c46] at H
          have c46b0 : (!((((rd_T41 t162 (ji42)).f0).toList) == ([99, 111, 110, 116, 101, 110, 116, 45, 108, 101, 110, 103, 116, 104] : List UInt8)) || (!((((rd_T41 t162 (ji42)).f1).toList) == t172.toList))) = true := c46
          clear c46
          simp only [Option.some.injEq, Prod.mk.injEq] at H
          obtain ⟨rfl, rfl, rfl, rfl⟩ := H
          try go_wp2_with (first | ((with_reducible refine gate_callee (f := 29) rfl ?_); refine goesL_ (some 30) rfl rfl Tryz.func29 zb11 rfl #[.string t159] rfl zb0 ?_; (with_reducible refine (field_Parse.calls t159 t162 t163 t164 _ ?side1 A11.out).mono ?_); (case side1 => exact Glob.below hGA.out zb3); rintro e w47 ⟨v165, rfl, ho0, hb⟩; refine ⟨_, rfl, ?_⟩; have n0_ := Aside0.mk (Kd.R_lower ho0 (below_size zb3)); have n1_ := Aside0.mk (blk_below (g := gb157) (o := .cells #[.int .i64 0, .slice none 0 0, .string (⟨#[]⟩ : ByteArray)] 24 (0, 0)) zb7 hb); have n2_ := Aside0.mk (below_step zb3 hb); clear BK157; clear HB; have HO166 := n0_; have BK157 := n1_; have HB := n2_; clear n0_ n1_ n2_; (try clear hb); (try clear hb2); (try clear hk); (try clear hi); (try clear ho0); obtain ⟨Ao48, co48, eo48⟩ := Kd.R_slice HO166.out; subst eo48) | ((with_reducible refine gate_dst (N := 11) rfl ?_); (try (refine gate_guard (by rfl) ?_; dsimp only)); refine box_event ?hg (N := 11) ?hd (cs := #[.int .i64 0, .slice none 0 0, .string (⟨#[]⟩ : ByteArray)]) (t := 24) ?hr ?_; (case hd => rfl); (case hg => rfl); (case hr => first | (go_simp; done) | (go_simp; rfl)); intro gb167 hg w49 hbox hb; have n0_ := Aside0.mk (Kd.R_below zb18 hb); have n1_ := Aside0.mk (blk_below (g := gb157) (o := .cells #[.int .i64 0, .slice none 0 0, .string (⟨#[]⟩ : ByteArray)] 24 (0, 0)) zb7 hb); have n2_ := Aside0.mk (below_step zb3 hb); have n3_ := Aside0.mk (hbox); have n4_ := Aside0.mk ((by rw [hg]; exact (below_size zb3) : w.heap.size ≤ gb167)); have n5_ := Aside0.mk ((by rw [hg]; exact (below_size zb3) : w.heap.size ≤ gb167)); have n6_ := Aside0.mk ((by rw [hg]; exact Nat.ne_of_lt (blk_lt (g := gb157) (o := .cells #[.int .i64 0, .slice none 0 0, .string (⟨#[]⟩ : ByteArray)] 24 (0, 0)) zb7) : gb157 ≠ gb167)); have n7_ := Aside0.mk ((by rw [hg]; exact Nat.ne_of_gt (blk_lt (g := gb157) (o := .cells #[.int .i64 0, .slice none 0 0, .string (⟨#[]⟩ : ByteArray)] 24 (0, 0)) zb7) : gb167 ≠ gb157)); clear HO166; clear BK157; clear HB; have HO166 := n0_; have BK157 := n1_; have HB := n2_; have BK167 := n3_; have GW167 := n4_; have GE167 := n5_; have NB157_167 := n6_; have NB167_157 := n7_; clear n0_ n1_ n2_ n3_ n4_ n5_ n6_ n7_; clear hb hbox hg; have hnb50 := NB167_157.out; have hnc50 := NB157_167.out; have hcz51_0 : w49.cell? ⟨gb167, 0, none⟩ = some (.int .i64 0) := (blk_cell BK167.out 0).trans rfl; have hcz51_1 : w49.cell? ⟨gb167, 1, none⟩ = some (.slice none 0 0) := (blk_cell BK167.out 1).trans rfl; have hcz51_2 : w49.cell? ⟨gb167, 2, none⟩ = some (.string (⟨#[]⟩ : ByteArray)) := (blk_cell BK167.out 2).trans rfl; have hfz51_0 := blk_frozen BK167.out 0; have hfz51_1 := blk_frozen BK167.out 1; have hfz51_2 := blk_frozen BK167.out 2) | ((with_reducible refine gate_callee (f := 17) rfl ?_); refine goesL_ (some 43) rfl rfl Tryz.func17 zb11 rfl #[.int .i64 t161] rfl zb0 ?_; (with_reducible refine (response_bare.calls t161 false _ A13.out).mono ?_); rintro e w' ⟨rfl, ⟨nd, rfl⟩⟩; refine ⟨_, rfl, ?_⟩))
          have n0_ : Aside0 (Kd.R k41 41 (((w49.setCell ⟨gb167, 0, none⟩ (.int .i64 t161)).setCell ⟨gb167, 1, none⟩ (.slice Ao48 t162.length co48)).setCell ⟨gb167, 2, none⟩ (.string t163)) w.heap.size (fun _ => True) (.slice Ao48 t162.length co48) t162) := ⟨by (with_reducible repeat (first | apply Kd.R_alloc | apply Kd.R_drewN | apply Kd.R_drew)); exact Kd.R_mono (Kd.R_far (p := ⟨gb167, 2, none⟩) (Kd.R_far (p := ⟨gb167, 1, none⟩) (Kd.R_far (p := ⟨gb167, 0, none⟩) (Kd.R_types HO166.out BK167.out zb39) (fun _ hk => hk.2) (.int .i64 t161)) (fun _ hk => hk.2) (.slice Ao48 t162.length co48)) (fun _ hk => hk.2) (.string t163)) (fun _ hk => trivial)⟩
          have n1_ : Aside0 ((((w49.setCell ⟨gb167, 0, none⟩ (.int .i64 t161)).setCell ⟨gb167, 1, none⟩ (.slice Ao48 t162.length co48)).setCell ⟨gb167, 2, none⟩ (.string t163)).heap[gb157]? = some (.cells #[.int .i64 0, .slice none 0 0, .string (⟨#[]⟩ : ByteArray)] 24 (0, 0))) := ⟨by (with_reducible repeat (first | refine blk_drewN ?_ _ | refine blk_drew ?_ | refine blk_alloc ?_ _)); refine blk_far ?_ NB157_167.out _; (with_reducible repeat (first | refine blk_drewN ?_ _ | refine blk_drew ?_ | refine blk_alloc ?_ _)); refine blk_far ?_ NB157_167.out _; (with_reducible repeat (first | refine blk_drewN ?_ _ | refine blk_drew ?_ | refine blk_alloc ?_ _)); refine blk_far ?_ NB157_167.out _; (with_reducible repeat (first | refine blk_drewN ?_ _ | refine blk_drew ?_ | refine blk_alloc ?_ _)); exact BK157.out⟩
          have n2_ : Aside0 ((((w49.setCell ⟨gb167, 0, none⟩ (.int .i64 t161)).setCell ⟨gb167, 1, none⟩ (.slice Ao48 t162.length co48)).setCell ⟨gb167, 2, none⟩ (.string t163)).heap[gb167]? = some (.cells #[.int .i64 t161, .slice Ao48 t162.length co48, .string t163] 24 (0, 0))) := ⟨by (with_reducible repeat (first | refine blk_drewN ?_ _ | refine blk_drew ?_ | refine blk_alloc ?_ _)); refine blk_put (cs := #[.int .i64 t161, .slice Ao48 t162.length co48, .string (⟨#[]⟩ : ByteArray)]) ?_ 2 _ rfl; (with_reducible repeat (first | refine blk_drewN ?_ _ | refine blk_drew ?_ | refine blk_alloc ?_ _)); refine blk_put (cs := #[.int .i64 t161, .slice none 0 0, .string (⟨#[]⟩ : ByteArray)]) ?_ 1 _ rfl; (with_reducible repeat (first | refine blk_drewN ?_ _ | refine blk_drew ?_ | refine blk_alloc ?_ _)); refine blk_put (cs := #[.int .i64 0, .slice none 0 0, .string (⟨#[]⟩ : ByteArray)]) ?_ 0 _ rfl; (with_reducible repeat (first | refine blk_drewN ?_ _ | refine blk_drew ?_ | refine blk_alloc ?_ _)); exact BK167.out⟩
          have n3_ : Aside0 (Below w.heap.size w (((w49.setCell ⟨gb167, 0, none⟩ (.int .i64 t161)).setCell ⟨gb167, 1, none⟩ (.slice Ao48 t162.length co48)).setCell ⟨gb167, 2, none⟩ (.string t163))) := ⟨by repeat (first | (with_reducible first | exact HB.out | apply below_alloc | apply pw_below_drewN | apply below_drew1 | refine below_set ?_ GE157.out | refine below_set ?_ GE167.out) | exact HB.out)⟩
          (try clear HO166)
          (try clear BK157)
          (try clear BK167)
          (try clear HB)
          generalize (((w49.setCell ⟨gb167, 0, none⟩ (.int .i64 t161)).setCell ⟨gb167, 1, none⟩ (.slice Ao48 t162.length co48)).setCell ⟨gb167, 2, none⟩ (.string t163)) = w52 at n0_ n1_ n2_ n3_ ⊢
          have HO166 := n0_
          have BK157 := n1_
          have BK167 := n2_
          have HB := n3_
          clear n0_ n1_ n2_ n3_
          (try (rw [drewN_self w52]; generalize hq_ : World.drewN w52 _ = w52; have n0_ : Aside0 (Kd.R k41 41 w52 w.heap.size (fun _ => True) (.slice Ao48 t162.length co48) t162) := ⟨by rw [← hq_]; exact zb18⟩; have n1_ : Aside0 (w52.heap[gb157]? = some (.cells #[.int .i64 0, .slice none 0 0, .string (⟨#[]⟩ : ByteArray)] 24 (0, 0))) := ⟨by rw [← hq_]; exact zb7⟩; have n2_ : Aside0 (w52.heap[gb167]? = some (.cells #[.int .i64 t161, .slice Ao48 t162.length co48, .string t163] 24 (0, 0))) := ⟨by rw [← hq_]; exact zb25⟩; have n3_ : Aside0 (Below w.heap.size w w52) := ⟨by rw [← hq_]; exact zb8⟩; clear HO166 BK157 BK167 HB hq_; have HO166 := n0_; have BK157 := n1_; have BK167 := n2_; have HB := n3_; clear n0_ n1_ n2_ n3_))
          have n0_ := Aside0.mk (Kd.R_drew HO166.out)
          have n1_ := Aside0.mk (blk_drew BK157.out)
          have n2_ := Aside0.mk (blk_drew BK167.out)
          have n3_ := Aside0.mk (below_drew1 HB.out)
          clear HO166
          clear BK157
          clear BK167
          clear HB
          have HO166 := n0_
          have BK157 := n1_
          have BK167 := n2_
          have HB := n3_
          clear n0_ n1_ n2_ n3_
          have p171 : 0 ≤ ((ji42) : Int) := of_decide_eq_true zb4
          have q171 : (ji42) < (t162.length : Int) := of_decide_eq_true zb4
          obtain ⟨ad171, e171, hx171_0, hx171_1⟩ := at_T41 (Kd.R_reads' HO166.out).2.2 (ji42) p171 q171
          cases e171
          replace p171 := eq_true p171
          replace q171 := eq_true q171
          refine start_ (n := 19) (S := fun w' => w'.cell? (ad171.add (((ji42)).toNat * 2)) = some (.string ((rd_T41 t162 (ji42)).f0)) ∧ w'.cell? ⟨(ad171.add (((ji42)).toNat * 2)).block, (ad171.add (((ji42)).toNat * 2)).off + 1, none⟩ = some (.string ((rd_T41 t162 (ji42)).f1))) (ds := []) #[false, false, false, false, false, false, false, false, false, false, false, false, false, false, false, false, false, false, false] zb11 rfl rfl ⟨hx171_0, hx171_1⟩ (fun hHeld => ?_); refine with_tabW response_Parse.tab14 response_Parse.bits14 (fun HT_ HW_ => ?_)
          skip
          refine pure_ (i := 0) (N := some 56) (v := ?_) (a' := ?_) #[true, false, false, false, false, false, false, false, false, false, false, false, false, false, false, false, false, false, false] rfl rfl (any_of HT_.out zb11) (fun _ _ _ h => h) (Or.inl ⟨by rfl, ?_⟩) ?_ ?_
          rotate_left
          ·intro w'
           go_simp
           first | with_reducible rfl | (rw [if_neg zb2])
          rotate_left
          ·simp only [Act.put, List.setIfInBounds_toArray, List.set_cons_zero, List.set_cons_succ, i64_w, i32_w]
           rfl
          refine one_ (i := 1) (N := some 57) #[true, true, false, false, false, false, false, false, false, false, false, false, false, false, false, false, false, false, false] rfl rfl (one_of HT_.out zb11) zb39 (fun K hK => ?_)
          refine goes_ Tryz.func18 zb11 rfl #[.slice (some ad171) t162.length co48] (by rfl) rfl rfl zb0 ?_
          with_reducible refine (response_lengths.calls kj3 _ _ t162 t170 _ ?side1 ?side2 A40.out).mono ?_
          (case side1 => repeat (first | exact (Kd.R_reads' HO166.out).2.2 | (with_reducible refine Kd.C_alloc ?_ _) | (with_reducible refine Kd.C_drewN ?_ _) | (with_reducible refine Kd.C_drew ?_)))
          (case side2 => exact (Kd.R_reads' HO166.out).2.1)
          rintro e w54 ⟨rfl, hb⟩
          have HS0_ := (hb.cell (World.block_lt_of_cell? _ _ (hHeld.1))).trans (hHeld.1)
          have HS1_ := (hb.cell (World.block_lt_of_cell? _ _ (hHeld.2))).trans (hHeld.2)
          refine ⟨_, rfl, ?_⟩
          have n0_ := Aside0.mk (Kd.R_below zb18 hb)
          have n1_ := Aside0.mk (blk_below (g := gb157) (o := .cells #[.int .i64 0, .slice none 0 0, .string (⟨#[]⟩ : ByteArray)] 24 (0, 0)) zb7 hb)
          have n2_ := Aside0.mk (blk_below (g := gb167) (o := .cells #[.int .i64 t161, .slice (some ad171) t162.length co48, .string t163] 24 (0, 0)) zb25 hb)
          have n3_ := Aside0.mk (below_step zb8 hb)
          clear HO166
          clear BK157
          clear BK167
          clear HB
          have HO166 := n0_
          have BK157 := n1_
          have BK167 := n2_
          have HB := n3_
          clear n0_ n1_ n2_ n3_
          (try clear hb)
          (try clear hb2)
          (try clear hk)
          (try clear hi)
          refine hK.out _ _ ⟨HS0_, HS1_⟩ (fun hHeld => ?_)
          clear hK K
          refine norm_ (a' := ?_) ?_ ?_
          rotate_left
          ·show Act.put _ (some 57) _ = _
           simp only [Act.put, List.setIfInBounds_toArray, List.set_cons_zero, List.set_cons_succ, i64_w, i32_w]
           rfl
          refine pure_ (i := 2) (N := some 58) (v := ?_) (a' := ?_) #[true, true, true, false, false, false, false, false, false, false, false, false, false, false, false, false, false, false, false] rfl rfl (any_of HT_.out zb11) (fun _ _ _ h => h) (Or.inl ⟨by rfl, ?_⟩) ?_ ?_
          rotate_left
          ·intro w'
           go_simp
           first | with_reducible rfl | (rw [if_neg zb2])
          rotate_left
          ·simp only [Act.put, List.setIfInBounds_toArray, List.set_cons_zero, List.set_cons_succ, i64_w, i32_w]
           rfl
          refine pure_ (i := 3) (N := some 59) (v := ?_) (a' := ?_) #[true, true, true, true, false, false, false, false, false, false, false, false, false, false, false, false, false, false, false] rfl rfl (any_of HT_.out zb11) (fun _ _ _ h => h) (Or.inl ⟨by rfl, ?_⟩) ?_ ?_
          rotate_left
          ·intro w'
           go_simp
           first | with_reducible rfl | (rw [if_neg zb2])
          rotate_left
          ·simp only [Act.put, List.setIfInBounds_toArray, List.set_cons_zero, List.set_cons_succ, i64_w, i32_w]
           rfl
          refine pure_ (i := 4) (N := some 60) (v := ?_) (a' := ?_) #[true, true, true, true, true, false, false, false, false, false, false, false, false, false, false, false, false, false, false] rfl rfl (any_of HT_.out zb11) (fun _ _ _ h => h) (Or.inl ⟨by rfl, ?_⟩) ?_ ?_
          rotate_left
          ·intro w'
           go_simp
           first | with_reducible rfl | (rw [if_neg zb2])
          rotate_left
          ·simp only [Act.put, List.setIfInBounds_toArray, List.set_cons_zero, List.set_cons_succ, i64_w, i32_w]
           rfl
          refine pure_ (i := 5) (N := some 61) (v := ?_) (a' := ?_) #[true, true, true, true, true, true, false, false, false, false, false, false, false, false, false, false, false, false, false] rfl rfl (any_of HT_.out zb11) (fun _ _ _ h => h) (Or.inl ⟨by rfl, ?_⟩) ?_ ?_
          rotate_left
          ·intro w'
           go_simp
           first | with_reducible rfl | (rw [if_neg zb2])
          rotate_left
          ·simp only [Act.put, List.setIfInBounds_toArray, List.set_cons_zero, List.set_cons_succ, i64_w, i32_w]
           rfl
          refine pure_ (i := 6) (N := some 62) (v := ?_) (a' := ?_) #[true, true, true, true, true, true, true, false, false, false, false, false, false, false, false, false, false, false, false] rfl rfl (any_of HT_.out zb11) (fun _ _ _ h => h) (Or.inl ⟨by rfl, ?_⟩) ?_ ?_
          rotate_left
          ·intro w'
           go_simp
           first | with_reducible rfl | (rw [if_neg zb2])
          rotate_left
          ·simp only [Act.put, List.setIfInBounds_toArray, List.set_cons_zero, List.set_cons_succ, i64_w, i32_w]
           rfl
          refine pure_ (i := 8) (N := some 64) (v := ?_) (a' := ?_) #[true, true, true, true, true, true, true, false, true, false, false, false, false, false, false, false, false, false, false] rfl rfl (any_of HT_.out zb11) (fun _ _ _ h => h) (Or.inl ⟨by rfl, ?_⟩) ?_ ?_
          rotate_left
          ·intro w'
           go_simp
           first | with_reducible rfl | (rw [if_neg zb2])
          rotate_left
          ·simp only [Act.put, List.setIfInBounds_toArray, List.set_cons_zero, List.set_cons_succ, i64_w, i32_w]
           rfl
          refine pure_ (i := 9) (N := some 65) (v := ?_) (a' := ?_) #[true, true, true, true, true, true, true, false, true, true, false, false, false, false, false, false, false, false, false] rfl rfl (any_of HT_.out zb11) (fun _ _ _ h => h) (Or.inl ⟨by rfl, ?_⟩) ?_ ?_
          rotate_left
          ·intro w'
           go_simp
           first | with_reducible rfl | (rw [if_neg zb2])
          rotate_left
          ·simp only [Act.put, List.setIfInBounds_toArray, List.set_cons_zero, List.set_cons_succ, i64_w, i32_w]
           rfl
          refine take_ (i := 7) (N := some 63) (v := ?_) (a' := ?_) #[true, true, true, true, true, true, true, true, true, true, false, false, false, false, false, false, false, false, false] rfl rfl (take_ofW HT_.out HW_.out zb11) (fun _ _ _ h => h) (Or.inl ⟨by rfl, ?_⟩) hHeld ?_ ?_
          rotate_left
          ·rintro w' ⟨s0, s1⟩
           go_simp
           first | with_reducible rfl | (rw [if_neg zb2])
          rotate_left
          ·simp only [Act.put, List.setIfInBounds_toArray, List.set_cons_zero, List.set_cons_succ, i64_w, i32_w]
           rfl
          refine one_ (i := 10) (N := some 66) #[true, true, true, true, true, true, true, true, true, true, true, false, false, false, false, false, false, false, false] rfl rfl (one_of HT_.out zb11) zb39 (fun K hK => ?_)
          refine goes_ Tryz.func20 zb11 rfl #[.int .i64 (t163.size : Int)] (by rfl) rfl rfl zb0 ?_
          with_reducible refine (strconv_Itoa.calls (t163.size : Int) t172 _ ?side1 A45.out).mono ?_
          (case side1 => exact Glob.below hGA.out zb8)
          rintro e w55 ⟨rfl, hb⟩
          have HS0_ := (hb.cell (World.block_lt_of_cell? _ _ (hHeld.1))).trans (hHeld.1)
          have HS1_ := (hb.cell (World.block_lt_of_cell? _ _ (hHeld.2))).trans (hHeld.2)
          refine ⟨_, rfl, ?_⟩
          have n0_ := Aside0.mk (Kd.R_below zb18 hb)
          have n1_ := Aside0.mk (blk_below (g := gb157) (o := .cells #[.int .i64 0, .slice none 0 0, .string (⟨#[]⟩ : ByteArray)] 24 (0, 0)) zb7 hb)
          have n2_ := Aside0.mk (blk_below (g := gb167) (o := .cells #[.int .i64 t161, .slice (some ad171) t162.length co48, .string t163] 24 (0, 0)) zb25 hb)
          have n3_ := Aside0.mk (below_step zb8 hb)
          clear HO166
          clear BK157
          clear BK167
          clear HB
          have HO166 := n0_
          have BK157 := n1_
          have BK167 := n2_
          have HB := n3_
          clear n0_ n1_ n2_ n3_
          (try clear hb)
          (try clear hb2)
          (try clear hk)
          (try clear hi)
          refine hK.out _ _ ⟨HS0_, HS1_⟩ (fun hHeld => ?_)
          clear hK K
          refine norm_ (a' := ?_) ?_ ?_
          rotate_left
          ·show Act.put _ (some 66) _ = _
           simp only [Act.put, List.setIfInBounds_toArray, List.set_cons_zero, List.set_cons_succ, i64_w, i32_w]
           rfl
          refine pure_ (i := 11) (N := some 67) (v := ?_) (a' := ?_) #[true, true, true, true, true, true, true, true, true, true, true, true, false, false, false, false, false, false, false] rfl rfl (any_of HT_.out zb11) (fun _ _ _ h => h) (Or.inl ⟨by rfl, ?_⟩) ?_ ?_
          rotate_left
          ·intro w'
           go_simp
           first | with_reducible rfl | (rw [if_neg zb2])
          rotate_left
          ·simp only [Act.put, List.setIfInBounds_toArray, List.set_cons_zero, List.set_cons_succ, i64_w, i32_w]
           rfl
          refine pure_ (i := 12) (N := some 68) (v := ?_) (a' := ?_) #[true, true, true, true, true, true, true, true, true, true, true, true, true, false, false, false, false, false, false] rfl rfl (any_of HT_.out zb11) (fun _ _ _ h => h) (Or.inl ⟨by rfl, ?_⟩) ?_ ?_
          rotate_left
          ·intro w'
           go_simp
           first | with_reducible rfl | (rw [if_neg zb2])
          rotate_left
          ·simp only [Act.put, List.setIfInBounds_toArray, List.set_cons_zero, List.set_cons_succ, i64_w, i32_w]
           rfl
          refine pure_ (i := 13) (N := some 69) (v := ?_) (a' := ?_) #[true, true, true, true, true, true, true, true, true, true, true, true, true, true, false, false, false, false, false] rfl rfl (any_of HT_.out zb11) (fun _ _ _ h => h) (Or.inl ⟨by rfl, ?_⟩) ?_ ?_
          rotate_left
          ·intro w'
           go_simp
           first | with_reducible rfl | (rw [if_neg zb2])
          rotate_left
          ·simp only [Act.put, List.setIfInBounds_toArray, List.set_cons_zero, List.set_cons_succ, i64_w, i32_w]
           rfl
          refine pure_ (i := 14) (N := some 70) (v := ?_) (a' := ?_) #[true, true, true, true, true, true, true, true, true, true, true, true, true, true, true, false, false, false, false] rfl rfl (any_of HT_.out zb11) (fun _ _ _ h => h) (Or.inl ⟨by rfl, ?_⟩) ?_ ?_
          rotate_left
          ·intro w'
           go_simp
           first | with_reducible rfl | (rw [if_neg zb2])
          rotate_left
          ·simp only [Act.put, List.setIfInBounds_toArray, List.set_cons_zero, List.set_cons_succ, i64_w, i32_w]
           rfl
          refine pure_ (i := 15) (N := some 71) (v := undef) (a' := ?_) #[true, true, true, true, true, true, true, true, true, true, true, true, true, true, true, true, false, false, false] rfl rfl (any_of HT_.out zb11) (fun _ _ _ h => h) (Or.inr ⟨by rfl, rfl⟩) ?_ ?_
          rotate_left
          ·simp only [Act.put, List.setIfInBounds_toArray, List.set_cons_zero, List.set_cons_succ, i64_w, i32_w]
           rfl
          refine pure_ (i := 16) (N := some 72) (v := undef) (a' := ?_) #[true, true, true, true, true, true, true, true, true, true, true, true, true, true, true, true, true, false, false] rfl rfl (any_of HT_.out zb11) (fun _ _ _ h => h) (Or.inr ⟨by rfl, rfl⟩) ?_ ?_
          rotate_left
          ·simp only [Act.put, List.setIfInBounds_toArray, List.set_cons_zero, List.set_cons_succ, i64_w, i32_w]
           rfl
          refine pure_ (i := 17) (N := some 73) (v := undef) (a' := ?_) #[true, true, true, true, true, true, true, true, true, true, true, true, true, true, true, true, true, true, false] rfl rfl (any_of HT_.out zb11) (fun _ _ _ h => h) (Or.inr ⟨by rfl, rfl⟩) ?_ ?_
          rotate_left
          ·simp only [Act.put, List.setIfInBounds_toArray, List.set_cons_zero, List.set_cons_succ, i64_w, i32_w]
           rfl
          refine pure_ (i := 18) (N := some 74) (v := ?_) (a' := ?_) #[true, true, true, true, true, true, true, true, true, true, true, true, true, true, true, true, true, true, true] rfl rfl (any_of HT_.out zb11) (fun _ _ _ h => h) (Or.inl ⟨by rfl, ?_⟩) ?_ ?_
          rotate_left
          ·intro w'
           go_simp
           first | with_reducible rfl | (rw [if_neg zb2])
          rotate_left
          ·simp only [Act.put, List.setIfInBounds_toArray, List.set_cons_zero, List.set_cons_succ, i64_w, i32_w]
           rfl
          refine done_ (done_of HT_.out zb11) ?_
          have hcz56_0 : w55.cell? ⟨gb157, 0, none⟩ = some (.int .i64 0) := (blk_cell BK157.out 0).trans rfl
          have hcz56_1 : w55.cell? ⟨gb157, 1, none⟩ = some (.slice none 0 0) := (blk_cell BK157.out 1).trans rfl
          have hcz56_2 : w55.cell? ⟨gb157, 2, none⟩ = some (.string (⟨#[]⟩ : ByteArray)) := (blk_cell BK157.out 2).trans rfl
          have hfz56_0 := blk_frozen BK157.out 0
          have hfz56_1 := blk_frozen BK157.out 1
          have hfz56_2 := blk_frozen BK157.out 2
          try go_wp2
          refine bodyPost_ret (results_ct rfl _ _ gb157 24 #[.int .i64 0, .slice none 0 0, .string (⟨#[]⟩ : ByteArray)] (0, 0) _ rfl zb10 Tryz.underlying24 rfl zb11) rfl ?_
          exact ⟨_, by first | rfl | (simp [errW_none, errW_some, bne_nil_] <;> rfl) | (simp only [← hji42]; first | rfl | (simp [errW_none, errW_some, bne_nil_] <;> rfl)) | (simp [*, errW_none, errW_some] <;> rfl), by first | exact Kd.R_nil _ _ _ _ _ | exact Kd.N_nil _ _ _ _ _ | exact Kd.V_nil _ _ _ _ _ | exact Kd.Q_nil _ _ _ _ _ | exact Kd.S_nil _ _ _ _ _, zb8⟩
         ·rw [if_neg c46] at H
          have c46b0 : (!((((rd_T41 t162 (ji42)).f0).toList) == ([99, 111, 110, 116, 101, 110, 116, 45, 108, 101, 110, 103, 116, 104] : List UInt8)) || (!((((rd_T41 t162 (ji42)).f1).toList) == t172.toList))) = false := by simpa using c46
          clear c46
          by_cases c57 : (t163.size : Int) > 100000
          ·rw [if_pos c57] at H
           have c57b0 : decide (100000 < (t163.size : Int)) = true := decide_eq_true c57
           have c57b1 : decide (100000 < t163.size) = true := decide_eq_true zb34
           clear c57
           simp only [Option.some.injEq, Prod.mk.injEq] at H
           obtain ⟨rfl, rfl, rfl, rfl⟩ := H
           try go_wp2_with (first | ((with_reducible refine gate_callee (f := 29) rfl ?_); refine goesL_ (some 30) rfl rfl Tryz.func29 zb11 rfl #[.string t159] rfl zb0 ?_; (with_reducible refine (field_Parse.calls t159 t162 t163 t164 _ ?side1 A11.out).mono ?_); (case side1 => exact Glob.below hGA.out zb3); rintro e w58 ⟨v165, rfl, ho0, hb⟩; refine ⟨_, rfl, ?_⟩; have n0_ := Aside0.mk (Kd.R_lower ho0 (below_size zb3)); have n1_ := Aside0.mk (blk_below (g := gb157) (o := .cells #[.int .i64 0, .slice none 0 0, .string (⟨#[]⟩ : ByteArray)] 24 (0, 0)) zb7 hb); have n2_ := Aside0.mk (below_step zb3 hb); clear BK157; clear HB; have HO166 := n0_; have BK157 := n1_; have HB := n2_; clear n0_ n1_ n2_; (try clear hb); (try clear hb2); (try clear hk); (try clear hi); (try clear ho0); obtain ⟨Ao59, co59, eo59⟩ := Kd.R_slice HO166.out; subst eo59) | ((with_reducible refine gate_dst (N := 11) rfl ?_); (try (refine gate_guard (by rfl) ?_; dsimp only)); refine box_event ?hg (N := 11) ?hd (cs := #[.int .i64 0, .slice none 0 0, .string (⟨#[]⟩ : ByteArray)]) (t := 24) ?hr ?_; (case hd => rfl); (case hg => rfl); (case hr => first | (go_simp; done) | (go_simp; rfl)); intro gb167 hg w60 hbox hb; have n0_ := Aside0.mk (Kd.R_below zb18 hb); have n1_ := Aside0.mk (blk_below (g := gb157) (o := .cells #[.int .i64 0, .slice none 0 0, .string (⟨#[]⟩ : ByteArray)] 24 (0, 0)) zb7 hb); have n2_ := Aside0.mk (below_step zb3 hb); have n3_ := Aside0.mk (hbox); have n4_ := Aside0.mk ((by rw [hg]; exact (below_size zb3) : w.heap.size ≤ gb167)); have n5_ := Aside0.mk ((by rw [hg]; exact (below_size zb3) : w.heap.size ≤ gb167)); have n6_ := Aside0.mk ((by rw [hg]; exact Nat.ne_of_lt (blk_lt (g := gb157) (o := .cells #[.int .i64 0, .slice none 0 0, .string (⟨#[]⟩ : ByteArray)] 24 (0, 0)) zb7) : gb157 ≠ gb167)); have n7_ := Aside0.mk ((by rw [hg]; exact Nat.ne_of_gt (blk_lt (g := gb157) (o := .cells #[.int .i64 0, .slice none 0 0, .string (⟨#[]⟩ : ByteArray)] 24 (0, 0)) zb7) : gb167 ≠ gb157)); clear HO166; clear BK157; clear HB; have HO166 := n0_; have BK157 := n1_; have HB := n2_; have BK167 := n3_; have GW167 := n4_; have GE167 := n5_; have NB157_167 := n6_; have NB167_157 := n7_; clear n0_ n1_ n2_ n3_ n4_ n5_ n6_ n7_; clear hb hbox hg; have hnb61 := NB167_157.out; have hnc61 := NB157_167.out; have hcz62_0 : w60.cell? ⟨gb167, 0, none⟩ = some (.int .i64 0) := (blk_cell BK167.out 0).trans rfl; have hcz62_1 : w60.cell? ⟨gb167, 1, none⟩ = some (.slice none 0 0) := (blk_cell BK167.out 1).trans rfl; have hcz62_2 : w60.cell? ⟨gb167, 2, none⟩ = some (.string (⟨#[]⟩ : ByteArray)) := (blk_cell BK167.out 2).trans rfl; have hfz62_0 := blk_frozen BK167.out 0; have hfz62_1 := blk_frozen BK167.out 1; have hfz62_2 := blk_frozen BK167.out 2) | ((with_reducible refine gate_callee (f := 17) rfl ?_); refine goesL_ (some 43) rfl rfl Tryz.func17 zb11 rfl #[.int .i64 t161] rfl zb0 ?_; (with_reducible refine (response_bare.calls t161 false _ A13.out).mono ?_); rintro e w' ⟨rfl, ⟨nd, rfl⟩⟩; refine ⟨_, rfl, ?_⟩))
           have n0_ : Aside0 (Kd.R k41 41 (((w60.setCell ⟨gb167, 0, none⟩ (.int .i64 t161)).setCell ⟨gb167, 1, none⟩ (.slice Ao59 t162.length co59)).setCell ⟨gb167, 2, none⟩ (.string t163)) w.heap.size (fun _ => True) (.slice Ao59 t162.length co59) t162) := ⟨by (with_reducible repeat (first | apply Kd.R_alloc | apply Kd.R_drewN | apply Kd.R_drew)); exact Kd.R_mono (Kd.R_far (p := ⟨gb167, 2, none⟩) (Kd.R_far (p := ⟨gb167, 1, none⟩) (Kd.R_far (p := ⟨gb167, 0, none⟩) (Kd.R_types HO166.out BK167.out zb39) (fun _ hk => hk.2) (.int .i64 t161)) (fun _ hk => hk.2) (.slice Ao59 t162.length co59)) (fun _ hk => hk.2) (.string t163)) (fun _ hk => trivial)⟩
           have n1_ : Aside0 ((((w60.setCell ⟨gb167, 0, none⟩ (.int .i64 t161)).setCell ⟨gb167, 1, none⟩ (.slice Ao59 t162.length co59)).setCell ⟨gb167, 2, none⟩ (.string t163)).heap[gb157]? = some (.cells #[.int .i64 0, .slice none 0 0, .string (⟨#[]⟩ : ByteArray)] 24 (0, 0))) := ⟨by (with_reducible repeat (first | refine blk_drewN ?_ _ | refine blk_drew ?_ | refine blk_alloc ?_ _)); refine blk_far ?_ NB157_167.out _; (with_reducible repeat (first | refine blk_drewN ?_ _ | refine blk_drew ?_ | refine blk_alloc ?_ _)); refine blk_far ?_ NB157_167.out _; (with_reducible repeat (first | refine blk_drewN ?_ _ | refine blk_drew ?_ | refine blk_alloc ?_ _)); refine blk_far ?_ NB157_167.out _; (with_reducible repeat (first | refine blk_drewN ?_ _ | refine blk_drew ?_ | refine blk_alloc ?_ _)); exact BK157.out⟩
           have n2_ : Aside0 ((((w60.setCell ⟨gb167, 0, none⟩ (.int .i64 t161)).setCell ⟨gb167, 1, none⟩ (.slice Ao59 t162.length co59)).setCell ⟨gb167, 2, none⟩ (.string t163)).heap[gb167]? = some (.cells #[.int .i64 t161, .slice Ao59 t162.length co59, .string t163] 24 (0, 0))) := ⟨by (with_reducible repeat (first | refine blk_drewN ?_ _ | refine blk_drew ?_ | refine blk_alloc ?_ _)); refine blk_put (cs := #[.int .i64 t161, .slice Ao59 t162.length co59, .string (⟨#[]⟩ : ByteArray)]) ?_ 2 _ rfl; (with_reducible repeat (first | refine blk_drewN ?_ _ | refine blk_drew ?_ | refine blk_alloc ?_ _)); refine blk_put (cs := #[.int .i64 t161, .slice none 0 0, .string (⟨#[]⟩ : ByteArray)]) ?_ 1 _ rfl; (with_reducible repeat (first | refine blk_drewN ?_ _ | refine blk_drew ?_ | refine blk_alloc ?_ _)); refine blk_put (cs := #[.int .i64 0, .slice none 0 0, .string (⟨#[]⟩ : ByteArray)]) ?_ 0 _ rfl; (with_reducible repeat (first | refine blk_drewN ?_ _ | refine blk_drew ?_ | refine blk_alloc ?_ _)); exact BK167.out⟩
           have n3_ : Aside0 (Below w.heap.size w (((w60.setCell ⟨gb167, 0, none⟩ (.int .i64 t161)).setCell ⟨gb167, 1, none⟩ (.slice Ao59 t162.length co59)).setCell ⟨gb167, 2, none⟩ (.string t163))) := ⟨by repeat (first | (with_reducible first | exact HB.out | apply below_alloc | apply pw_below_drewN | apply below_drew1 | refine below_set ?_ GE157.out | refine below_set ?_ GE167.out) | exact HB.out)⟩
           (try clear HO166)
           (try clear BK157)
           (try clear BK167)
           (try clear HB)
           generalize (((w60.setCell ⟨gb167, 0, none⟩ (.int .i64 t161)).setCell ⟨gb167, 1, none⟩ (.slice Ao59 t162.length co59)).setCell ⟨gb167, 2, none⟩ (.string t163)) = w63 at n0_ n1_ n2_ n3_ ⊢
           have HO166 := n0_
           have BK157 := n1_
           have BK167 := n2_
           have HB := n3_
           clear n0_ n1_ n2_ n3_
           (try (rw [drewN_self w63]; generalize hq_ : World.drewN w63 _ = w63; have n0_ : Aside0 (Kd.R k41 41 w63 w.heap.size (fun _ => True) (.slice Ao59 t162.length co59) t162) := ⟨by rw [← hq_]; exact zb18⟩; have n1_ : Aside0 (w63.heap[gb157]? = some (.cells #[.int .i64 0, .slice none 0 0, .string (⟨#[]⟩ : ByteArray)] 24 (0, 0))) := ⟨by rw [← hq_]; exact zb7⟩; have n2_ : Aside0 (w63.heap[gb167]? = some (.cells #[.int .i64 t161, .slice Ao59 t162.length co59, .string t163] 24 (0, 0))) := ⟨by rw [← hq_]; exact zb25⟩; have n3_ : Aside0 (Below w.heap.size w w63) := ⟨by rw [← hq_]; exact zb8⟩; clear HO166 BK157 BK167 HB hq_; have HO166 := n0_; have BK157 := n1_; have BK167 := n2_; have HB := n3_; clear n0_ n1_ n2_ n3_))
           have n0_ := Aside0.mk (Kd.R_drew HO166.out)
           have n1_ := Aside0.mk (blk_drew BK157.out)
           have n2_ := Aside0.mk (blk_drew BK167.out)
           have n3_ := Aside0.mk (below_drew1 HB.out)
           clear HO166
           clear BK157
           clear BK167
           clear HB
           have HO166 := n0_
           have BK157 := n1_
           have BK167 := n2_
           have HB := n3_
           clear n0_ n1_ n2_ n3_
           have p171 : 0 ≤ ((ji42) : Int) := of_decide_eq_true zb4
           have q171 : (ji42) < (t162.length : Int) := of_decide_eq_true zb4
           obtain ⟨ad171, e171, hx171_0, hx171_1⟩ := at_T41 (Kd.R_reads' HO166.out).2.2 (ji42) p171 q171
           cases e171
           replace p171 := eq_true p171
           replace q171 := eq_true q171
           refine start_ (n := 19) (S := fun w' => w'.cell? (ad171.add (((ji42)).toNat * 2)) = some (.string ((rd_T41 t162 (ji42)).f0)) ∧ w'.cell? ⟨(ad171.add (((ji42)).toNat * 2)).block, (ad171.add (((ji42)).toNat * 2)).off + 1, none⟩ = some (.string ((rd_T41 t162 (ji42)).f1))) (ds := []) #[false, false, false, false, false, false, false, false, false, false, false, false, false, false, false, false, false, false, false] zb11 rfl rfl ⟨hx171_0, hx171_1⟩ (fun hHeld => ?_); refine with_tabW response_Parse.tab14 response_Parse.bits14 (fun HT_ HW_ => ?_)
           skip
           refine pure_ (i := 0) (N := some 56) (v := ?_) (a' := ?_) #[true, false, false, false, false, false, false, false, false, false, false, false, false, false, false, false, false, false, false] rfl rfl (any_of HT_.out zb11) (fun _ _ _ h => h) (Or.inl ⟨by rfl, ?_⟩) ?_ ?_
           rotate_left
           ·intro w'
            go_simp
            first | with_reducible rfl | (rw [if_neg zb2])
           rotate_left
           ·simp only [Act.put, List.setIfInBounds_toArray, List.set_cons_zero, List.set_cons_succ, i64_w, i32_w]
            rfl
           refine one_ (i := 1) (N := some 57) #[true, true, false, false, false, false, false, false, false, false, false, false, false, false, false, false, false, false, false] rfl rfl (one_of HT_.out zb11) zb39 (fun K hK => ?_)
           refine goes_ Tryz.func18 zb11 rfl #[.slice (some ad171) t162.length co59] (by rfl) rfl rfl zb0 ?_
           with_reducible refine (response_lengths.calls kj3 _ _ t162 t170 _ ?side1 ?side2 A40.out).mono ?_
           (case side1 => repeat (first | exact (Kd.R_reads' HO166.out).2.2 | (with_reducible refine Kd.C_alloc ?_ _) | (with_reducible refine Kd.C_drewN ?_ _) | (with_reducible refine Kd.C_drew ?_)))
           (case side2 => exact (Kd.R_reads' HO166.out).2.1)
           rintro e w65 ⟨rfl, hb⟩
           have HS0_ := (hb.cell (World.block_lt_of_cell? _ _ (hHeld.1))).trans (hHeld.1)
           have HS1_ := (hb.cell (World.block_lt_of_cell? _ _ (hHeld.2))).trans (hHeld.2)
           refine ⟨_, rfl, ?_⟩
           have n0_ := Aside0.mk (Kd.R_below zb18 hb)
           have n1_ := Aside0.mk (blk_below (g := gb157) (o := .cells #[.int .i64 0, .slice none 0 0, .string (⟨#[]⟩ : ByteArray)] 24 (0, 0)) zb7 hb)
           have n2_ := Aside0.mk (blk_below (g := gb167) (o := .cells #[.int .i64 t161, .slice (some ad171) t162.length co59, .string t163] 24 (0, 0)) zb25 hb)
           have n3_ := Aside0.mk (below_step zb8 hb)
           clear HO166
           clear BK157
           clear BK167
           clear HB
           have HO166 := n0_
           have BK157 := n1_
           have BK167 := n2_
           have HB := n3_
           clear n0_ n1_ n2_ n3_
           (try clear hb)
           (try clear hb2)
           (try clear hk)
           (try clear hi)
           refine hK.out _ _ ⟨HS0_, HS1_⟩ (fun hHeld => ?_)
           clear hK K
           refine norm_ (a' := ?_) ?_ ?_
           rotate_left
           ·show Act.put _ (some 57) _ = _
            simp only [Act.put, List.setIfInBounds_toArray, List.set_cons_zero, List.set_cons_succ, i64_w, i32_w]
            rfl
           refine pure_ (i := 2) (N := some 58) (v := ?_) (a' := ?_) #[true, true, true, false, false, false, false, false, false, false, false, false, false, false, false, false, false, false, false] rfl rfl (any_of HT_.out zb11) (fun _ _ _ h => h) (Or.inl ⟨by rfl, ?_⟩) ?_ ?_
           rotate_left
           ·intro w'
            go_simp
            first | with_reducible rfl | (rw [if_neg zb2])
           rotate_left
           ·simp only [Act.put, List.setIfInBounds_toArray, List.set_cons_zero, List.set_cons_succ, i64_w, i32_w]
            rfl
           refine pure_ (i := 3) (N := some 59) (v := ?_) (a' := ?_) #[true, true, true, true, false, false, false, false, false, false, false, false, false, false, false, false, false, false, false] rfl rfl (any_of HT_.out zb11) (fun _ _ _ h => h) (Or.inl ⟨by rfl, ?_⟩) ?_ ?_
           rotate_left
           ·intro w'
            go_simp
            first | with_reducible rfl | (rw [if_neg zb2])
           rotate_left
           ·simp only [Act.put, List.setIfInBounds_toArray, List.set_cons_zero, List.set_cons_succ, i64_w, i32_w]
            rfl
           refine pure_ (i := 4) (N := some 60) (v := ?_) (a' := ?_) #[true, true, true, true, true, false, false, false, false, false, false, false, false, false, false, false, false, false, false] rfl rfl (any_of HT_.out zb11) (fun _ _ _ h => h) (Or.inl ⟨by rfl, ?_⟩) ?_ ?_
           rotate_left
           ·intro w'
            go_simp
            first | with_reducible rfl | (rw [if_neg zb2])
           rotate_left
           ·simp only [Act.put, List.setIfInBounds_toArray, List.set_cons_zero, List.set_cons_succ, i64_w, i32_w]
            rfl
           refine pure_ (i := 5) (N := some 61) (v := ?_) (a' := ?_) #[true, true, true, true, true, true, false, false, false, false, false, false, false, false, false, false, false, false, false] rfl rfl (any_of HT_.out zb11) (fun _ _ _ h => h) (Or.inl ⟨by rfl, ?_⟩) ?_ ?_
           rotate_left
           ·intro w'
            go_simp
            first | with_reducible rfl | (rw [if_neg zb2])
           rotate_left
           ·simp only [Act.put, List.setIfInBounds_toArray, List.set_cons_zero, List.set_cons_succ, i64_w, i32_w]
            rfl
           refine pure_ (i := 6) (N := some 62) (v := ?_) (a' := ?_) #[true, true, true, true, true, true, true, false, false, false, false, false, false, false, false, false, false, false, false] rfl rfl (any_of HT_.out zb11) (fun _ _ _ h => h) (Or.inl ⟨by rfl, ?_⟩) ?_ ?_
           rotate_left
           ·intro w'
            go_simp
            first | with_reducible rfl | (rw [if_neg zb2])
           rotate_left
           ·simp only [Act.put, List.setIfInBounds_toArray, List.set_cons_zero, List.set_cons_succ, i64_w, i32_w]
            rfl
           refine pure_ (i := 8) (N := some 64) (v := ?_) (a' := ?_) #[true, true, true, true, true, true, true, false, true, false, false, false, false, false, false, false, false, false, false] rfl rfl (any_of HT_.out zb11) (fun _ _ _ h => h) (Or.inl ⟨by rfl, ?_⟩) ?_ ?_
           rotate_left
           ·intro w'
            go_simp
            first | with_reducible rfl | (rw [if_neg zb2])
           rotate_left
           ·simp only [Act.put, List.setIfInBounds_toArray, List.set_cons_zero, List.set_cons_succ, i64_w, i32_w]
            rfl
           refine pure_ (i := 9) (N := some 65) (v := ?_) (a' := ?_) #[true, true, true, true, true, true, true, false, true, true, false, false, false, false, false, false, false, false, false] rfl rfl (any_of HT_.out zb11) (fun _ _ _ h => h) (Or.inl ⟨by rfl, ?_⟩) ?_ ?_
           rotate_left
           ·intro w'
            go_simp
            first | with_reducible rfl | (rw [if_neg zb2])
           rotate_left
           ·simp only [Act.put, List.setIfInBounds_toArray, List.set_cons_zero, List.set_cons_succ, i64_w, i32_w]
            rfl
           refine take_ (i := 7) (N := some 63) (v := ?_) (a' := ?_) #[true, true, true, true, true, true, true, true, true, true, false, false, false, false, false, false, false, false, false] rfl rfl (take_ofW HT_.out HW_.out zb11) (fun _ _ _ h => h) (Or.inl ⟨by rfl, ?_⟩) hHeld ?_ ?_
           rotate_left
           ·rintro w' ⟨s0, s1⟩
            go_simp
            first | with_reducible rfl | (rw [if_neg zb2])
           rotate_left
           ·simp only [Act.put, List.setIfInBounds_toArray, List.set_cons_zero, List.set_cons_succ, i64_w, i32_w]
            rfl
           refine one_ (i := 10) (N := some 66) #[true, true, true, true, true, true, true, true, true, true, true, false, false, false, false, false, false, false, false] rfl rfl (one_of HT_.out zb11) zb39 (fun K hK => ?_)
           refine goes_ Tryz.func20 zb11 rfl #[.int .i64 (t163.size : Int)] (by rfl) rfl rfl zb0 ?_
           with_reducible refine (strconv_Itoa.calls (t163.size : Int) t172 _ ?side1 A45.out).mono ?_
           (case side1 => exact Glob.below hGA.out zb8)
           rintro e w66 ⟨rfl, hb⟩
           have HS0_ := (hb.cell (World.block_lt_of_cell? _ _ (hHeld.1))).trans (hHeld.1)
           have HS1_ := (hb.cell (World.block_lt_of_cell? _ _ (hHeld.2))).trans (hHeld.2)
           refine ⟨_, rfl, ?_⟩
           have n0_ := Aside0.mk (Kd.R_below zb18 hb)
           have n1_ := Aside0.mk (blk_below (g := gb157) (o := .cells #[.int .i64 0, .slice none 0 0, .string (⟨#[]⟩ : ByteArray)] 24 (0, 0)) zb7 hb)
           have n2_ := Aside0.mk (blk_below (g := gb167) (o := .cells #[.int .i64 t161, .slice (some ad171) t162.length co59, .string t163] 24 (0, 0)) zb25 hb)
           have n3_ := Aside0.mk (below_step zb8 hb)
           clear HO166
           clear BK157
           clear BK167
           clear HB
           have HO166 := n0_
           have BK157 := n1_
           have BK167 := n2_
           have HB := n3_
           clear n0_ n1_ n2_ n3_
           (try clear hb)
           (try clear hb2)
           (try clear hk)
           (try clear hi)
           refine hK.out _ _ ⟨HS0_, HS1_⟩ (fun hHeld => ?_)
           clear hK K
           refine norm_ (a' := ?_) ?_ ?_
           rotate_left
           ·show Act.put _ (some 66) _ = _
            simp only [Act.put, List.setIfInBounds_toArray, List.set_cons_zero, List.set_cons_succ, i64_w, i32_w]
            rfl
           refine pure_ (i := 11) (N := some 67) (v := ?_) (a' := ?_) #[true, true, true, true, true, true, true, true, true, true, true, true, false, false, false, false, false, false, false] rfl rfl (any_of HT_.out zb11) (fun _ _ _ h => h) (Or.inl ⟨by rfl, ?_⟩) ?_ ?_
           rotate_left
           ·intro w'
            go_simp
            first | with_reducible rfl | (rw [if_neg zb2])
           rotate_left
           ·simp only [Act.put, List.setIfInBounds_toArray, List.set_cons_zero, List.set_cons_succ, i64_w, i32_w]
            rfl
           refine pure_ (i := 12) (N := some 68) (v := ?_) (a' := ?_) #[true, true, true, true, true, true, true, true, true, true, true, true, true, false, false, false, false, false, false] rfl rfl (any_of HT_.out zb11) (fun _ _ _ h => h) (Or.inl ⟨by rfl, ?_⟩) ?_ ?_
           rotate_left
           ·intro w'
            go_simp
            first | with_reducible rfl | (rw [if_neg zb2])
           rotate_left
           ·simp only [Act.put, List.setIfInBounds_toArray, List.set_cons_zero, List.set_cons_succ, i64_w, i32_w]
            rfl
           refine pure_ (i := 13) (N := some 69) (v := ?_) (a' := ?_) #[true, true, true, true, true, true, true, true, true, true, true, true, true, true, false, false, false, false, false] rfl rfl (any_of HT_.out zb11) (fun _ _ _ h => h) (Or.inl ⟨by rfl, ?_⟩) ?_ ?_
           rotate_left
           ·intro w'
            go_simp
            first | with_reducible rfl | (rw [if_neg zb2])
           rotate_left
           ·simp only [Act.put, List.setIfInBounds_toArray, List.set_cons_zero, List.set_cons_succ, i64_w, i32_w]
            rfl
           refine pure_ (i := 14) (N := some 70) (v := ?_) (a' := ?_) #[true, true, true, true, true, true, true, true, true, true, true, true, true, true, true, false, false, false, false] rfl rfl (any_of HT_.out zb11) (fun _ _ _ h => h) (Or.inl ⟨by rfl, ?_⟩) ?_ ?_
           rotate_left
           ·intro w'
            go_simp
            first | with_reducible rfl | (rw [if_neg zb2])
           rotate_left
           ·simp only [Act.put, List.setIfInBounds_toArray, List.set_cons_zero, List.set_cons_succ, i64_w, i32_w]
            rfl
           refine pure_ (i := 15) (N := some 71) (v := ?_) (a' := ?_) #[true, true, true, true, true, true, true, true, true, true, true, true, true, true, true, true, false, false, false] rfl rfl (any_of HT_.out zb11) (fun _ _ _ h => h) (Or.inl ⟨by rfl, ?_⟩) ?_ ?_
           rotate_left
           ·intro w'
            go_simp
            first | with_reducible rfl | (rw [if_neg zb2])
           rotate_left
           ·simp only [Act.put, List.setIfInBounds_toArray, List.set_cons_zero, List.set_cons_succ, i64_w, i32_w]
            rfl
           refine pure_ (i := 16) (N := some 72) (v := ?_) (a' := ?_) #[true, true, true, true, true, true, true, true, true, true, true, true, true, true, true, true, true, false, false] rfl rfl (any_of HT_.out zb11) (fun _ _ _ h => h) (Or.inl ⟨by rfl, ?_⟩) ?_ ?_
           rotate_left
           ·intro w'
            go_simp
            first | with_reducible rfl | (rw [if_neg zb2])
           rotate_left
           ·simp only [Act.put, List.setIfInBounds_toArray, List.set_cons_zero, List.set_cons_succ, i64_w, i32_w]
            rfl
           refine pure_ (i := 17) (N := some 73) (v := ?_) (a' := ?_) #[true, true, true, true, true, true, true, true, true, true, true, true, true, true, true, true, true, true, false] rfl rfl (any_of HT_.out zb11) (fun _ _ _ h => h) (Or.inl ⟨by rfl, ?_⟩) ?_ ?_
           rotate_left
           ·intro w'
            go_simp
            first | with_reducible rfl | (rw [if_neg zb2])
           rotate_left
           ·simp only [Act.put, List.setIfInBounds_toArray, List.set_cons_zero, List.set_cons_succ, i64_w, i32_w]
            rfl
           refine pure_ (i := 18) (N := some 74) (v := ?_) (a' := ?_) #[true, true, true, true, true, true, true, true, true, true, true, true, true, true, true, true, true, true, true] rfl rfl (any_of HT_.out zb11) (fun _ _ _ h => h) (Or.inl ⟨by rfl, ?_⟩) ?_ ?_
           rotate_left
           ·intro w'
            go_simp
            first | with_reducible rfl | (rw [if_neg zb2])
           rotate_left
           ·simp only [Act.put, List.setIfInBounds_toArray, List.set_cons_zero, List.set_cons_succ, i64_w, i32_w]
            rfl
           refine done_ (done_of HT_.out zb11) ?_
           have hcz67_0 : w66.cell? ⟨gb157, 0, none⟩ = some (.int .i64 0) := (blk_cell BK157.out 0).trans rfl
           have hcz67_1 : w66.cell? ⟨gb157, 1, none⟩ = some (.slice none 0 0) := (blk_cell BK157.out 1).trans rfl
           have hcz67_2 : w66.cell? ⟨gb157, 2, none⟩ = some (.string (⟨#[]⟩ : ByteArray)) := (blk_cell BK157.out 2).trans rfl
           have hfz67_0 := blk_frozen BK157.out 0
           have hfz67_1 := blk_frozen BK157.out 1
           have hfz67_2 := blk_frozen BK157.out 2
           try go_wp2
           refine bodyPost_ret (results_ct rfl _ _ gb157 24 #[.int .i64 0, .slice none 0 0, .string (⟨#[]⟩ : ByteArray)] (0, 0) _ rfl zb10 Tryz.underlying24 rfl zb11) rfl ?_
           exact ⟨_, by first | rfl | (simp [errW_none, errW_some, bne_nil_] <;> rfl) | (simp only [← hji42]; first | rfl | (simp [errW_none, errW_some, bne_nil_] <;> rfl)) | (simp [*, errW_none, errW_some] <;> rfl), by first | exact Kd.R_nil _ _ _ _ _ | exact Kd.N_nil _ _ _ _ _ | exact Kd.V_nil _ _ _ _ _ | exact Kd.Q_nil _ _ _ _ _ | exact Kd.S_nil _ _ _ _ _, zb8⟩
          ·rw [if_neg c57] at H
           have c57b0 : decide (100000 < (t163.size : Int)) = false := decide_eq_false c57
           have c57b1 : decide (100000 < t163.size) = false := decide_eq_false zb34
           clear c57
           by_cases c68 : (ji42) ≤ (t162.length : Int)
           ·rw [if_pos c68] at H
            have c68b0 := eq_true c68
            have c68b1 : decide ((ji42) ≤ (t162.length : Int)) = true := decide_eq_true c68
            clear c68
            obtain ⟨y173, hy173⟩ : ∃ y_ : List (S41), y_ = (t162.take ((ji42) : Int).toNat) := ⟨_, rfl⟩
            replace H : (some (t161, y173, t163, 0)) = some (r1, r2, r3, r4) := by first | (rw [hy173]; with_reducible exact H) | (have H2_ := (Option.bind_some _ _).symm.trans H; rw [hy173]; with_reducible exact H2_) | (have H2_ := (Option.bind_some _ _).symm.trans H; with_reducible exact H2_) | with_reducible exact H | (rw [hy173]; exact H) | exact H
            have Ny173 := Aside0.mk hy173
            clear hy173
            simp only [Option.some.injEq, Prod.mk.injEq] at H
            obtain ⟨rfl, rfl, rfl, rfl⟩ := H
            try go_wp2_with (first | ((with_reducible refine gate_callee (f := 29) rfl ?_); refine goesL_ (some 30) rfl rfl Tryz.func29 zb11 rfl #[.string t159] rfl zb0 ?_; (with_reducible refine (field_Parse.calls t159 t162 t163 t164 _ ?side1 A11.out).mono ?_); (case side1 => exact Glob.below hGA.out zb3); rintro e w69 ⟨v165, rfl, ho0, hb⟩; refine ⟨_, rfl, ?_⟩; have n0_ := Aside0.mk (Kd.R_lower ho0 (below_size zb3)); have n1_ := Aside0.mk (blk_below (g := gb157) (o := .cells #[.int .i64 0, .slice none 0 0, .string (⟨#[]⟩ : ByteArray)] 24 (0, 0)) zb7 hb); have n2_ := Aside0.mk (below_step zb3 hb); clear BK157; clear HB; have HO166 := n0_; have BK157 := n1_; have HB := n2_; clear n0_ n1_ n2_; (try clear hb); (try clear hb2); (try clear hk); (try clear hi); (try clear ho0); obtain ⟨Ao70, co70, eo70⟩ := Kd.R_slice HO166.out; subst eo70) | ((with_reducible refine gate_dst (N := 11) rfl ?_); (try (refine gate_guard (by rfl) ?_; dsimp only)); refine box_event ?hg (N := 11) ?hd (cs := #[.int .i64 0, .slice none 0 0, .string (⟨#[]⟩ : ByteArray)]) (t := 24) ?hr ?_; (case hd => rfl); (case hg => rfl); (case hr => first | (go_simp; done) | (go_simp; rfl)); intro gb167 hg w71 hbox hb; have n0_ := Aside0.mk (Kd.R_below zb18 hb); have n1_ := Aside0.mk (blk_below (g := gb157) (o := .cells #[.int .i64 0, .slice none 0 0, .string (⟨#[]⟩ : ByteArray)] 24 (0, 0)) zb7 hb); have n2_ := Aside0.mk (below_step zb3 hb); have n3_ := Aside0.mk (hbox); have n4_ := Aside0.mk ((by rw [hg]; exact (below_size zb3) : w.heap.size ≤ gb167)); have n5_ := Aside0.mk ((by rw [hg]; exact (below_size zb3) : w.heap.size ≤ gb167)); have n6_ := Aside0.mk ((by rw [hg]; exact Nat.ne_of_lt (blk_lt (g := gb157) (o := .cells #[.int .i64 0, .slice none 0 0, .string (⟨#[]⟩ : ByteArray)] 24 (0, 0)) zb7) : gb157 ≠ gb167)); have n7_ := Aside0.mk ((by rw [hg]; exact Nat.ne_of_gt (blk_lt (g := gb157) (o := .cells #[.int .i64 0, .slice none 0 0, .string (⟨#[]⟩ : ByteArray)] 24 (0, 0)) zb7) : gb167 ≠ gb157)); clear HO166; clear BK157; clear HB; have HO166 := n0_; have BK157 := n1_; have HB := n2_; have BK167 := n3_; have GW167 := n4_; have GE167 := n5_; have NB157_167 := n6_; have NB167_157 := n7_; clear n0_ n1_ n2_ n3_ n4_ n5_ n6_ n7_; clear hb hbox hg; have hnb72 := NB167_157.out; have hnc72 := NB157_167.out; have hcz73_0 : w71.cell? ⟨gb167, 0, none⟩ = some (.int .i64 0) := (blk_cell BK167.out 0).trans rfl; have hcz73_1 : w71.cell? ⟨gb167, 1, none⟩ = some (.slice none 0 0) := (blk_cell BK167.out 1).trans rfl; have hcz73_2 : w71.cell? ⟨gb167, 2, none⟩ = some (.string (⟨#[]⟩ : ByteArray)) := (blk_cell BK167.out 2).trans rfl; have hfz73_0 := blk_frozen BK167.out 0; have hfz73_1 := blk_frozen BK167.out 1; have hfz73_2 := blk_frozen BK167.out 2) | ((with_reducible refine gate_callee (f := 17) rfl ?_); refine goesL_ (some 43) rfl rfl Tryz.func17 zb11 rfl #[.int .i64 t161] rfl zb0 ?_; (with_reducible refine (response_bare.calls t161 false _ A13.out).mono ?_); rintro e w' ⟨rfl, ⟨nd, rfl⟩⟩; refine ⟨_, rfl, ?_⟩))
            have n0_ : Aside0 (Kd.R k41 41 (((w71.setCell ⟨gb167, 0, none⟩ (.int .i64 t161)).setCell ⟨gb167, 1, none⟩ (.slice Ao70 t162.length co70)).setCell ⟨gb167, 2, none⟩ (.string t163)) w.heap.size (fun _ => True) (.slice Ao70 t162.length co70) t162) := ⟨by (with_reducible repeat (first | apply Kd.R_alloc | apply Kd.R_drewN | apply Kd.R_drew)); exact Kd.R_mono (Kd.R_far (p := ⟨gb167, 2, none⟩) (Kd.R_far (p := ⟨gb167, 1, none⟩) (Kd.R_far (p := ⟨gb167, 0, none⟩) (Kd.R_types HO166.out BK167.out zb39) (fun _ hk => hk.2) (.int .i64 t161)) (fun _ hk => hk.2) (.slice Ao70 t162.length co70)) (fun _ hk => hk.2) (.string t163)) (fun _ hk => trivial)⟩
            have n1_ : Aside0 ((((w71.setCell ⟨gb167, 0, none⟩ (.int .i64 t161)).setCell ⟨gb167, 1, none⟩ (.slice Ao70 t162.length co70)).setCell ⟨gb167, 2, none⟩ (.string t163)).heap[gb157]? = some (.cells #[.int .i64 0, .slice none 0 0, .string (⟨#[]⟩ : ByteArray)] 24 (0, 0))) := ⟨by (with_reducible repeat (first | refine blk_drewN ?_ _ | refine blk_drew ?_ | refine blk_alloc ?_ _)); refine blk_far ?_ NB157_167.out _; (with_reducible repeat (first | refine blk_drewN ?_ _ | refine blk_drew ?_ | refine blk_alloc ?_ _)); refine blk_far ?_ NB157_167.out _; (with_reducible repeat (first | refine blk_drewN ?_ _ | refine blk_drew ?_ | refine blk_alloc ?_ _)); refine blk_far ?_ NB157_167.out _; (with_reducible repeat (first | refine blk_drewN ?_ _ | refine blk_drew ?_ | refine blk_alloc ?_ _)); exact BK157.out⟩
            have n2_ : Aside0 ((((w71.setCell ⟨gb167, 0, none⟩ (.int .i64 t161)).setCell ⟨gb167, 1, none⟩ (.slice Ao70 t162.length co70)).setCell ⟨gb167, 2, none⟩ (.string t163)).heap[gb167]? = some (.cells #[.int .i64 t161, .slice Ao70 t162.length co70, .string t163] 24 (0, 0))) := ⟨by (with_reducible repeat (first | refine blk_drewN ?_ _ | refine blk_drew ?_ | refine blk_alloc ?_ _)); refine blk_put (cs := #[.int .i64 t161, .slice Ao70 t162.length co70, .string (⟨#[]⟩ : ByteArray)]) ?_ 2 _ rfl; (with_reducible repeat (first | refine blk_drewN ?_ _ | refine blk_drew ?_ | refine blk_alloc ?_ _)); refine blk_put (cs := #[.int .i64 t161, .slice none 0 0, .string (⟨#[]⟩ : ByteArray)]) ?_ 1 _ rfl; (with_reducible repeat (first | refine blk_drewN ?_ _ | refine blk_drew ?_ | refine blk_alloc ?_ _)); refine blk_put (cs := #[.int .i64 0, .slice none 0 0, .string (⟨#[]⟩ : ByteArray)]) ?_ 0 _ rfl; (with_reducible repeat (first | refine blk_drewN ?_ _ | refine blk_drew ?_ | refine blk_alloc ?_ _)); exact BK167.out⟩
            have n3_ : Aside0 (Below w.heap.size w (((w71.setCell ⟨gb167, 0, none⟩ (.int .i64 t161)).setCell ⟨gb167, 1, none⟩ (.slice Ao70 t162.length co70)).setCell ⟨gb167, 2, none⟩ (.string t163))) := ⟨by repeat (first | (with_reducible first | exact HB.out | apply below_alloc | apply pw_below_drewN | apply below_drew1 | refine below_set ?_ GE157.out | refine below_set ?_ GE167.out) | exact HB.out)⟩
            (try clear HO166)
            (try clear BK157)
            (try clear BK167)
            (try clear HB)
            generalize (((w71.setCell ⟨gb167, 0, none⟩ (.int .i64 t161)).setCell ⟨gb167, 1, none⟩ (.slice Ao70 t162.length co70)).setCell ⟨gb167, 2, none⟩ (.string t163)) = w74 at n0_ n1_ n2_ n3_ ⊢
            have HO166 := n0_
            have BK157 := n1_
            have BK167 := n2_
            have HB := n3_
            clear n0_ n1_ n2_ n3_
            (try (rw [drewN_self w74]; generalize hq_ : World.drewN w74 _ = w74; have n0_ : Aside0 (Kd.R k41 41 w74 w.heap.size (fun _ => True) (.slice Ao70 t162.length co70) t162) := ⟨by rw [← hq_]; exact zb18⟩; have n1_ : Aside0 (w74.heap[gb157]? = some (.cells #[.int .i64 0, .slice none 0 0, .string (⟨#[]⟩ : ByteArray)] 24 (0, 0))) := ⟨by rw [← hq_]; exact zb7⟩; have n2_ : Aside0 (w74.heap[gb167]? = some (.cells #[.int .i64 t161, .slice Ao70 t162.length co70, .string t163] 24 (0, 0))) := ⟨by rw [← hq_]; exact zb25⟩; have n3_ : Aside0 (Below w.heap.size w w74) := ⟨by rw [← hq_]; exact zb8⟩; clear HO166 BK157 BK167 HB hq_; have HO166 := n0_; have BK157 := n1_; have BK167 := n2_; have HB := n3_; clear n0_ n1_ n2_ n3_))
            have n0_ := Aside0.mk (Kd.R_drew HO166.out)
            have n1_ := Aside0.mk (blk_drew BK157.out)
            have n2_ := Aside0.mk (blk_drew BK167.out)
            have n3_ := Aside0.mk (below_drew1 HB.out)
            clear HO166
            clear BK157
            clear BK167
            clear HB
            have HO166 := n0_
            have BK157 := n1_
            have BK167 := n2_
            have HB := n3_
            clear n0_ n1_ n2_ n3_
            have p171 : 0 ≤ ((ji42) : Int) := of_decide_eq_true zb4
            have q171 : (ji42) < (t162.length : Int) := of_decide_eq_true zb4
            obtain ⟨ad171, e171, hx171_0, hx171_1⟩ := at_T41 (Kd.R_reads' HO166.out).2.2 (ji42) p171 q171
            cases e171
            replace p171 := eq_true p171
            replace q171 := eq_true q171
            refine start_ (n := 19) (S := fun w' => w'.cell? (ad171.add (((ji42)).toNat * 2)) = some (.string ((rd_T41 t162 (ji42)).f0)) ∧ w'.cell? ⟨(ad171.add (((ji42)).toNat * 2)).block, (ad171.add (((ji42)).toNat * 2)).off + 1, none⟩ = some (.string ((rd_T41 t162 (ji42)).f1))) (ds := []) #[false, false, false, false, false, false, false, false, false, false, false, false, false, false, false, false, false, false, false] zb11 rfl rfl ⟨hx171_0, hx171_1⟩ (fun hHeld => ?_); refine with_tabW response_Parse.tab14 response_Parse.bits14 (fun HT_ HW_ => ?_)
            skip
            refine pure_ (i := 0) (N := some 56) (v := ?_) (a' := ?_) #[true, false, false, false, false, false, false, false, false, false, false, false, false, false, false, false, false, false, false] rfl rfl (any_of HT_.out zb11) (fun _ _ _ h => h) (Or.inl ⟨by rfl, ?_⟩) ?_ ?_
            rotate_left
            ·intro w'
             go_simp
             first | with_reducible rfl | (rw [if_neg zb2])
            rotate_left
            ·simp only [Act.put, List.setIfInBounds_toArray, List.set_cons_zero, List.set_cons_succ, i64_w, i32_w]
             rfl
            refine one_ (i := 1) (N := some 57) #[true, true, false, false, false, false, false, false, false, false, false, false, false, false, false, false, false, false, false] rfl rfl (one_of HT_.out zb11) zb39 (fun K hK => ?_)
            refine goes_ Tryz.func18 zb11 rfl #[.slice (some ad171) t162.length co70] (by rfl) rfl rfl zb0 ?_
            with_reducible refine (response_lengths.calls kj3 _ _ t162 t170 _ ?side1 ?side2 A40.out).mono ?_
            (case side1 => repeat (first | exact (Kd.R_reads' HO166.out).2.2 | (with_reducible refine Kd.C_alloc ?_ _) | (with_reducible refine Kd.C_drewN ?_ _) | (with_reducible refine Kd.C_drew ?_)))
            (case side2 => exact (Kd.R_reads' HO166.out).2.1)
            rintro e w76 ⟨rfl, hb⟩
            have HS0_ := (hb.cell (World.block_lt_of_cell? _ _ (hHeld.1))).trans (hHeld.1)
            have HS1_ := (hb.cell (World.block_lt_of_cell? _ _ (hHeld.2))).trans (hHeld.2)
            refine ⟨_, rfl, ?_⟩
            have n0_ := Aside0.mk (Kd.R_below zb18 hb)
            have n1_ := Aside0.mk (blk_below (g := gb157) (o := .cells #[.int .i64 0, .slice none 0 0, .string (⟨#[]⟩ : ByteArray)] 24 (0, 0)) zb7 hb)
            have n2_ := Aside0.mk (blk_below (g := gb167) (o := .cells #[.int .i64 t161, .slice (some ad171) t162.length co70, .string t163] 24 (0, 0)) zb25 hb)
            have n3_ := Aside0.mk (below_step zb8 hb)
            clear HO166
            clear BK157
            clear BK167
            clear HB
            have HO166 := n0_
            have BK157 := n1_
            have BK167 := n2_
            have HB := n3_
            clear n0_ n1_ n2_ n3_
            (try clear hb)
            (try clear hb2)
            (try clear hk)
            (try clear hi)
            refine hK.out _ _ ⟨HS0_, HS1_⟩ (fun hHeld => ?_)
            clear hK K
            refine norm_ (a' := ?_) ?_ ?_
            rotate_left
            ·show Act.put _ (some 57) _ = _
             simp only [Act.put, List.setIfInBounds_toArray, List.set_cons_zero, List.set_cons_succ, i64_w, i32_w]
             rfl
            refine pure_ (i := 2) (N := some 58) (v := ?_) (a' := ?_) #[true, true, true, false, false, false, false, false, false, false, false, false, false, false, false, false, false, false, false] rfl rfl (any_of HT_.out zb11) (fun _ _ _ h => h) (Or.inl ⟨by rfl, ?_⟩) ?_ ?_
            rotate_left
            ·intro w'
             go_simp
             first | with_reducible rfl | (rw [if_neg zb2])
            rotate_left
            ·simp only [Act.put, List.setIfInBounds_toArray, List.set_cons_zero, List.set_cons_succ, i64_w, i32_w]
             rfl
            refine pure_ (i := 3) (N := some 59) (v := ?_) (a' := ?_) #[true, true, true, true, false, false, false, false, false, false, false, false, false, false, false, false, false, false, false] rfl rfl (any_of HT_.out zb11) (fun _ _ _ h => h) (Or.inl ⟨by rfl, ?_⟩) ?_ ?_
            rotate_left
            ·intro w'
             go_simp
             first | with_reducible rfl | (rw [if_neg zb2])
            rotate_left
            ·simp only [Act.put, List.setIfInBounds_toArray, List.set_cons_zero, List.set_cons_succ, i64_w, i32_w]
             rfl
            refine pure_ (i := 4) (N := some 60) (v := ?_) (a' := ?_) #[true, true, true, true, true, false, false, false, false, false, false, false, false, false, false, false, false, false, false] rfl rfl (any_of HT_.out zb11) (fun _ _ _ h => h) (Or.inl ⟨by rfl, ?_⟩) ?_ ?_
            rotate_left
            ·intro w'
             go_simp
             first | with_reducible rfl | (rw [if_neg zb2])
            rotate_left
            ·simp only [Act.put, List.setIfInBounds_toArray, List.set_cons_zero, List.set_cons_succ, i64_w, i32_w]
             rfl
            refine pure_ (i := 5) (N := some 61) (v := ?_) (a' := ?_) #[true, true, true, true, true, true, false, false, false, false, false, false, false, false, false, false, false, false, false] rfl rfl (any_of HT_.out zb11) (fun _ _ _ h => h) (Or.inl ⟨by rfl, ?_⟩) ?_ ?_
            rotate_left
            ·intro w'
             go_simp
             first | with_reducible rfl | (rw [if_neg zb2])
            rotate_left
            ·simp only [Act.put, List.setIfInBounds_toArray, List.set_cons_zero, List.set_cons_succ, i64_w, i32_w]
             rfl
            refine pure_ (i := 6) (N := some 62) (v := ?_) (a' := ?_) #[true, true, true, true, true, true, true, false, false, false, false, false, false, false, false, false, false, false, false] rfl rfl (any_of HT_.out zb11) (fun _ _ _ h => h) (Or.inl ⟨by rfl, ?_⟩) ?_ ?_
            rotate_left
            ·intro w'
             go_simp
             first | with_reducible rfl | (rw [if_neg zb2])
            rotate_left
            ·simp only [Act.put, List.setIfInBounds_toArray, List.set_cons_zero, List.set_cons_succ, i64_w, i32_w]
             rfl
            refine pure_ (i := 8) (N := some 64) (v := ?_) (a' := ?_) #[true, true, true, true, true, true, true, false, true, false, false, false, false, false, false, false, false, false, false] rfl rfl (any_of HT_.out zb11) (fun _ _ _ h => h) (Or.inl ⟨by rfl, ?_⟩) ?_ ?_
            rotate_left
            ·intro w'
             go_simp
             first | with_reducible rfl | (rw [if_neg zb2])
            rotate_left
            ·simp only [Act.put, List.setIfInBounds_toArray, List.set_cons_zero, List.set_cons_succ, i64_w, i32_w]
             rfl
            refine pure_ (i := 9) (N := some 65) (v := ?_) (a' := ?_) #[true, true, true, true, true, true, true, false, true, true, false, false, false, false, false, false, false, false, false] rfl rfl (any_of HT_.out zb11) (fun _ _ _ h => h) (Or.inl ⟨by rfl, ?_⟩) ?_ ?_
            rotate_left
            ·intro w'
             go_simp
             first | with_reducible rfl | (rw [if_neg zb2])
            rotate_left
            ·simp only [Act.put, List.setIfInBounds_toArray, List.set_cons_zero, List.set_cons_succ, i64_w, i32_w]
             rfl
            refine take_ (i := 7) (N := some 63) (v := ?_) (a' := ?_) #[true, true, true, true, true, true, true, true, true, true, false, false, false, false, false, false, false, false, false] rfl rfl (take_ofW HT_.out HW_.out zb11) (fun _ _ _ h => h) (Or.inl ⟨by rfl, ?_⟩) hHeld ?_ ?_
            rotate_left
            ·rintro w' ⟨s0, s1⟩
             go_simp
             first | with_reducible rfl | (rw [if_neg zb2])
            rotate_left
            ·simp only [Act.put, List.setIfInBounds_toArray, List.set_cons_zero, List.set_cons_succ, i64_w, i32_w]
             rfl
            refine one_ (i := 10) (N := some 66) #[true, true, true, true, true, true, true, true, true, true, true, false, false, false, false, false, false, false, false] rfl rfl (one_of HT_.out zb11) zb39 (fun K hK => ?_)
            refine goes_ Tryz.func20 zb11 rfl #[.int .i64 (t163.size : Int)] (by rfl) rfl rfl zb0 ?_
            with_reducible refine (strconv_Itoa.calls (t163.size : Int) t172 _ ?side1 A45.out).mono ?_
            (case side1 => exact Glob.below hGA.out zb8)
            rintro e w77 ⟨rfl, hb⟩
            have HS0_ := (hb.cell (World.block_lt_of_cell? _ _ (hHeld.1))).trans (hHeld.1)
            have HS1_ := (hb.cell (World.block_lt_of_cell? _ _ (hHeld.2))).trans (hHeld.2)
            refine ⟨_, rfl, ?_⟩
            have n0_ := Aside0.mk (Kd.R_below zb18 hb)
            have n1_ := Aside0.mk (blk_below (g := gb157) (o := .cells #[.int .i64 0, .slice none 0 0, .string (⟨#[]⟩ : ByteArray)] 24 (0, 0)) zb7 hb)
            have n2_ := Aside0.mk (blk_below (g := gb167) (o := .cells #[.int .i64 t161, .slice (some ad171) t162.length co70, .string t163] 24 (0, 0)) zb25 hb)
            have n3_ := Aside0.mk (below_step zb8 hb)
            clear HO166
            clear BK157
            clear BK167
            clear HB
            have HO166 := n0_
            have BK157 := n1_
            have BK167 := n2_
            have HB := n3_
            clear n0_ n1_ n2_ n3_
            (try clear hb)
            (try clear hb2)
            (try clear hk)
            (try clear hi)
            refine hK.out _ _ ⟨HS0_, HS1_⟩ (fun hHeld => ?_)
            clear hK K
            refine norm_ (a' := ?_) ?_ ?_
            rotate_left
            ·show Act.put _ (some 66) _ = _
             simp only [Act.put, List.setIfInBounds_toArray, List.set_cons_zero, List.set_cons_succ, i64_w, i32_w]
             rfl
            refine pure_ (i := 11) (N := some 67) (v := ?_) (a' := ?_) #[true, true, true, true, true, true, true, true, true, true, true, true, false, false, false, false, false, false, false] rfl rfl (any_of HT_.out zb11) (fun _ _ _ h => h) (Or.inl ⟨by rfl, ?_⟩) ?_ ?_
            rotate_left
            ·intro w'
             go_simp
             first | with_reducible rfl | (rw [if_neg zb2])
            rotate_left
            ·simp only [Act.put, List.setIfInBounds_toArray, List.set_cons_zero, List.set_cons_succ, i64_w, i32_w]
             rfl
            refine pure_ (i := 12) (N := some 68) (v := ?_) (a' := ?_) #[true, true, true, true, true, true, true, true, true, true, true, true, true, false, false, false, false, false, false] rfl rfl (any_of HT_.out zb11) (fun _ _ _ h => h) (Or.inl ⟨by rfl, ?_⟩) ?_ ?_
            rotate_left
            ·intro w'
             go_simp
             first | with_reducible rfl | (rw [if_neg zb2])
            rotate_left
            ·simp only [Act.put, List.setIfInBounds_toArray, List.set_cons_zero, List.set_cons_succ, i64_w, i32_w]
             rfl
            refine pure_ (i := 13) (N := some 69) (v := ?_) (a' := ?_) #[true, true, true, true, true, true, true, true, true, true, true, true, true, true, false, false, false, false, false] rfl rfl (any_of HT_.out zb11) (fun _ _ _ h => h) (Or.inl ⟨by rfl, ?_⟩) ?_ ?_
            rotate_left
            ·intro w'
             go_simp
             first | with_reducible rfl | (rw [if_neg zb2])
            rotate_left
            ·simp only [Act.put, List.setIfInBounds_toArray, List.set_cons_zero, List.set_cons_succ, i64_w, i32_w]
             rfl
            refine pure_ (i := 14) (N := some 70) (v := ?_) (a' := ?_) #[true, true, true, true, true, true, true, true, true, true, true, true, true, true, true, false, false, false, false] rfl rfl (any_of HT_.out zb11) (fun _ _ _ h => h) (Or.inl ⟨by rfl, ?_⟩) ?_ ?_
            rotate_left
            ·intro w'
             go_simp
             first | with_reducible rfl | (rw [if_neg zb2])
            rotate_left
            ·simp only [Act.put, List.setIfInBounds_toArray, List.set_cons_zero, List.set_cons_succ, i64_w, i32_w]
             rfl
            refine pure_ (i := 15) (N := some 71) (v := ?_) (a' := ?_) #[true, true, true, true, true, true, true, true, true, true, true, true, true, true, true, true, false, false, false] rfl rfl (any_of HT_.out zb11) (fun _ _ _ h => h) (Or.inl ⟨by rfl, ?_⟩) ?_ ?_
            rotate_left
            ·intro w'
             go_simp
             first | with_reducible rfl | (rw [if_neg zb2])
            rotate_left
            ·simp only [Act.put, List.setIfInBounds_toArray, List.set_cons_zero, List.set_cons_succ, i64_w, i32_w]
             rfl
            refine pure_ (i := 16) (N := some 72) (v := ?_) (a' := ?_) #[true, true, true, true, true, true, true, true, true, true, true, true, true, true, true, true, true, false, false] rfl rfl (any_of HT_.out zb11) (fun _ _ _ h => h) (Or.inl ⟨by rfl, ?_⟩) ?_ ?_
            rotate_left
            ·intro w'
             go_simp
             first | with_reducible rfl | (rw [if_neg zb2])
            rotate_left
            ·simp only [Act.put, List.setIfInBounds_toArray, List.set_cons_zero, List.set_cons_succ, i64_w, i32_w]
             rfl
            refine pure_ (i := 17) (N := some 73) (v := ?_) (a' := ?_) #[true, true, true, true, true, true, true, true, true, true, true, true, true, true, true, true, true, true, false] rfl rfl (any_of HT_.out zb11) (fun _ _ _ h => h) (Or.inl ⟨by rfl, ?_⟩) ?_ ?_
            rotate_left
            ·intro w'
             go_simp
             first | with_reducible rfl | (rw [if_neg zb2])
            rotate_left
            ·simp only [Act.put, List.setIfInBounds_toArray, List.set_cons_zero, List.set_cons_succ, i64_w, i32_w]
             rfl
            refine pure_ (i := 18) (N := some 74) (v := ?_) (a' := ?_) #[true, true, true, true, true, true, true, true, true, true, true, true, true, true, true, true, true, true, true] rfl rfl (any_of HT_.out zb11) (fun _ _ _ h => h) (Or.inl ⟨by rfl, ?_⟩) ?_ ?_
            rotate_left
            ·intro w'
             go_simp
             first | with_reducible rfl | (rw [if_neg zb2])
            rotate_left
            ·simp only [Act.put, List.setIfInBounds_toArray, List.set_cons_zero, List.set_cons_succ, i64_w, i32_w]
             rfl
            refine done_ (done_of HT_.out zb11) ?_
            have q78 : ((ji42) : Int) ≤ ((t162.length : Int) : Int) := of_decide_eq_true zb4
            obtain ⟨i078, hi078, _, hsz78, _⟩ := info_parts info41
            have hcut78 := cut_to (P := Tryz.prog) 22 41 .i64 Tryz.underlying22 hi078 (some ad171) t162.length co70 (ji42) (of_decide_eq_true zb4) q78 (Kd.R_reads' HO166.out).2.1
            have hr78 := Kd.R_take (m := ((ji42) : Int).toNat) HO166.out zb34
            have hy78 : y173.length = ((ji42) : Int).toNat := (by rw [Ny173.out, List.length_take]; omega)
            rw [← Ny173.out] at hr78
            rw [← hy78] at hr78 hcut78
            clear hy78 hi078 hsz78 HO166
            have HO175 := Aside0.mk hr78
            clear hr78
            replace q78 := eq_true q78
            have hcz79_0 : w77.cell? ⟨gb167, 0, none⟩ = some (.int .i64 t161) := (blk_cell BK167.out 0).trans rfl
            have hcz79_1 : w77.cell? ⟨gb167, 1, none⟩ = some (.slice (some ad171) t162.length co70) := (blk_cell BK167.out 1).trans rfl
            have hcz79_2 : w77.cell? ⟨gb167, 2, none⟩ = some (.string t163) := (blk_cell BK167.out 2).trans rfl
            have hfz79_0 := blk_frozen BK167.out 0
            have hfz79_1 := blk_frozen BK167.out 1
            have hfz79_2 := blk_frozen BK167.out 2
            have hcz80_0 : w77.cell? ⟨gb157, 0, none⟩ = some (.int .i64 0) := (blk_cell BK157.out 0).trans rfl
            have hcz80_1 : w77.cell? ⟨gb157, 1, none⟩ = some (.slice none 0 0) := (blk_cell BK157.out 1).trans rfl
            have hcz80_2 : w77.cell? ⟨gb157, 2, none⟩ = some (.string (⟨#[]⟩ : ByteArray)) := (blk_cell BK157.out 2).trans rfl
            have hfz80_0 := blk_frozen BK157.out 0
            have hfz80_1 := blk_frozen BK157.out 1
            have hfz80_2 := blk_frozen BK157.out 2
            try go_wp2
            refine bodyPost_ret (results_ct rfl _ _ gb157 24 #[.int .i64 t161, .slice (some ad171) y173.length co70, .string t163] (0, 0) _ rfl (by (with_reducible repeat (first | refine blk_drewN ?_ _ | refine blk_drew ?_ | refine blk_alloc ?_ _)); refine blk_put (cs := #[.int .i64 t161, .slice (some ad171) y173.length co70, .string (⟨#[]⟩ : ByteArray)]) ?_ 2 _ rfl; (with_reducible repeat (first | refine blk_drewN ?_ _ | refine blk_drew ?_ | refine blk_alloc ?_ _)); refine blk_put (cs := #[.int .i64 t161, .slice none 0 0, .string (⟨#[]⟩ : ByteArray)]) ?_ 1 _ rfl; (with_reducible repeat (first | refine blk_drewN ?_ _ | refine blk_drew ?_ | refine blk_alloc ?_ _)); refine blk_put (cs := #[.int .i64 0, .slice none 0 0, .string (⟨#[]⟩ : ByteArray)]) ?_ 0 _ rfl; (with_reducible repeat (first | refine blk_drewN ?_ _ | refine blk_drew ?_ | refine blk_alloc ?_ _)); refine blk_far ?_ NB157_167.out _; (with_reducible repeat (first | refine blk_drewN ?_ _ | refine blk_drew ?_ | refine blk_alloc ?_ _)); exact BK157.out) Tryz.underlying24 rfl zb11) rfl ?_
            exact ⟨_, by first | rfl | (simp [errW_none, errW_some, bne_nil_] <;> rfl) | (simp only [← hji42]; first | rfl | (simp [errW_none, errW_some, bne_nil_] <;> rfl)) | (simp [*, errW_none, errW_some] <;> rfl), by (with_reducible repeat (first | apply Kd.R_alloc | apply Kd.R_drewN | apply Kd.R_drew)); exact Kd.R_mono (Kd.R_far (p := ⟨gb157, 2, none⟩) (Kd.R_far (p := ⟨gb157, 1, none⟩) (Kd.R_far (p := ⟨gb157, 0, none⟩) (Kd.R_far (p := ⟨gb167, 1, none⟩) (Kd.R_types (Kd.R_types HO175.out BK167.out zb39) BK157.out zb39) (fun _ hk => hk.1.2) (.slice (some ad171) y173.length co70)) (fun _ hk => hk.2) (.int .i64 t161)) (fun _ hk => hk.2) (.slice (some ad171) y173.length co70)) (fun _ hk => hk.2) (.string t163)) (fun _ hk => trivial), zb8⟩
           ·rw [if_neg c68] at H
            exact absurd H zb46
        ·rw [if_neg c44] at H
         exact absurd H zb46
       ·rw [if_neg c43] at H
        exact absurd H zb46
      ·rw [if_neg c41] at H
       have c41b0 : (t170 == 1) = false := beq_eq_false_iff_ne.mpr c41
       have c41b1 : (t170 != 1) = true := bne_iff_ne.mpr c41
       simp only [Option.some.injEq, Prod.mk.injEq] at H
       obtain ⟨rfl, rfl, rfl, rfl⟩ := H
       try go_wp2_with (first | ((with_reducible refine gate_callee (f := 29) rfl ?_); refine goesL_ (some 30) rfl rfl Tryz.func29 zb11 rfl #[.string t159] rfl zb0 ?_; (with_reducible refine (field_Parse.calls t159 t162 t163 t164 _ ?side1 A11.out).mono ?_); (case side1 => exact Glob.below hGA.out zb3); rintro e w81 ⟨v165, rfl, ho0, hb⟩; refine ⟨_, rfl, ?_⟩; have n0_ := Aside0.mk (Kd.R_lower ho0 (below_size zb3)); have n1_ := Aside0.mk (blk_below (g := gb157) (o := .cells #[.int .i64 0, .slice none 0 0, .string (⟨#[]⟩ : ByteArray)] 24 (0, 0)) zb7 hb); have n2_ := Aside0.mk (below_step zb3 hb); clear BK157; clear HB; have HO166 := n0_; have BK157 := n1_; have HB := n2_; clear n0_ n1_ n2_; (try clear hb); (try clear hb2); (try clear hk); (try clear hi); (try clear ho0); obtain ⟨Ao82, co82, eo82⟩ := Kd.R_slice HO166.out; subst eo82) | ((with_reducible refine gate_dst (N := 11) rfl ?_); (try (refine gate_guard (by rfl) ?_; dsimp only)); refine box_event ?hg (N := 11) ?hd (cs := #[.int .i64 0, .slice none 0 0, .string (⟨#[]⟩ : ByteArray)]) (t := 24) ?hr ?_; (case hd => rfl); (case hg => rfl); (case hr => first | (go_simp; done) | (go_simp; rfl)); intro gb167 hg w83 hbox hb; have n0_ := Aside0.mk (Kd.R_below zb18 hb); have n1_ := Aside0.mk (blk_below (g := gb157) (o := .cells #[.int .i64 0, .slice none 0 0, .string (⟨#[]⟩ : ByteArray)] 24 (0, 0)) zb7 hb); have n2_ := Aside0.mk (below_step zb3 hb); have n3_ := Aside0.mk (hbox); have n4_ := Aside0.mk ((by rw [hg]; exact (below_size zb3) : w.heap.size ≤ gb167)); have n5_ := Aside0.mk ((by rw [hg]; exact (below_size zb3) : w.heap.size ≤ gb167)); have n6_ := Aside0.mk ((by rw [hg]; exact Nat.ne_of_lt (blk_lt (g := gb157) (o := .cells #[.int .i64 0, .slice none 0 0, .string (⟨#[]⟩ : ByteArray)] 24 (0, 0)) zb7) : gb157 ≠ gb167)); have n7_ := Aside0.mk ((by rw [hg]; exact Nat.ne_of_gt (blk_lt (g := gb157) (o := .cells #[.int .i64 0, .slice none 0 0, .string (⟨#[]⟩ : ByteArray)] 24 (0, 0)) zb7) : gb167 ≠ gb157)); clear HO166; clear BK157; clear HB; have HO166 := n0_; have BK157 := n1_; have HB := n2_; have BK167 := n3_; have GW167 := n4_; have GE167 := n5_; have NB157_167 := n6_; have NB167_157 := n7_; clear n0_ n1_ n2_ n3_ n4_ n5_ n6_ n7_; clear hb hbox hg; have hnb84 := NB167_157.out; have hnc84 := NB157_167.out; have hcz85_0 : w83.cell? ⟨gb167, 0, none⟩ = some (.int .i64 0) := (blk_cell BK167.out 0).trans rfl; have hcz85_1 : w83.cell? ⟨gb167, 1, none⟩ = some (.slice none 0 0) := (blk_cell BK167.out 1).trans rfl; have hcz85_2 : w83.cell? ⟨gb167, 2, none⟩ = some (.string (⟨#[]⟩ : ByteArray)) := (blk_cell BK167.out 2).trans rfl; have hfz85_0 := blk_frozen BK167.out 0; have hfz85_1 := blk_frozen BK167.out 1; have hfz85_2 := blk_frozen BK167.out 2) | ((with_reducible refine gate_callee (f := 17) rfl ?_); refine goesL_ (some 43) rfl rfl Tryz.func17 zb11 rfl #[.int .i64 t161] rfl zb0 ?_; (with_reducible refine (response_bare.calls t161 false _ A13.out).mono ?_); rintro e w' ⟨rfl, ⟨nd, rfl⟩⟩; refine ⟨_, rfl, ?_⟩))
       have n0_ : Aside0 (Kd.R k41 41 (((w83.setCell ⟨gb167, 0, none⟩ (.int .i64 t161)).setCell ⟨gb167, 1, none⟩ (.slice Ao82 t162.length co82)).setCell ⟨gb167, 2, none⟩ (.string t163)) w.heap.size (fun _ => True) (.slice Ao82 t162.length co82) t162) := ⟨by (with_reducible repeat (first | apply Kd.R_alloc | apply Kd.R_drewN | apply Kd.R_drew)); exact Kd.R_mono (Kd.R_far (p := ⟨gb167, 2, none⟩) (Kd.R_far (p := ⟨gb167, 1, none⟩) (Kd.R_far (p := ⟨gb167, 0, none⟩) (Kd.R_types HO166.out BK167.out zb39) (fun _ hk => hk.2) (.int .i64 t161)) (fun _ hk => hk.2) (.slice Ao82 t162.length co82)) (fun _ hk => hk.2) (.string t163)) (fun _ hk => trivial)⟩
       have n1_ : Aside0 ((((w83.setCell ⟨gb167, 0, none⟩ (.int .i64 t161)).setCell ⟨gb167, 1, none⟩ (.slice Ao82 t162.length co82)).setCell ⟨gb167, 2, none⟩ (.string t163)).heap[gb157]? = some (.cells #[.int .i64 0, .slice none 0 0, .string (⟨#[]⟩ : ByteArray)] 24 (0, 0))) := ⟨by (with_reducible repeat (first | refine blk_drewN ?_ _ | refine blk_drew ?_ | refine blk_alloc ?_ _)); refine blk_far ?_ NB157_167.out _; (with_reducible repeat (first | refine blk_drewN ?_ _ | refine blk_drew ?_ | refine blk_alloc ?_ _)); refine blk_far ?_ NB157_167.out _; (with_reducible repeat (first | refine blk_drewN ?_ _ | refine blk_drew ?_ | refine blk_alloc ?_ _)); refine blk_far ?_ NB157_167.out _; (with_reducible repeat (first | refine blk_drewN ?_ _ | refine blk_drew ?_ | refine blk_alloc ?_ _)); exact BK157.out⟩
       have n2_ : Aside0 ((((w83.setCell ⟨gb167, 0, none⟩ (.int .i64 t161)).setCell ⟨gb167, 1, none⟩ (.slice Ao82 t162.length co82)).setCell ⟨gb167, 2, none⟩ (.string t163)).heap[gb167]? = some (.cells #[.int .i64 t161, .slice Ao82 t162.length co82, .string t163] 24 (0, 0))) := ⟨by (with_reducible repeat (first | refine blk_drewN ?_ _ | refine blk_drew ?_ | refine blk_alloc ?_ _)); refine blk_put (cs := #[.int .i64 t161, .slice Ao82 t162.length co82, .string (⟨#[]⟩ : ByteArray)]) ?_ 2 _ rfl; (with_reducible repeat (first | refine blk_drewN ?_ _ | refine blk_drew ?_ | refine blk_alloc ?_ _)); refine blk_put (cs := #[.int .i64 t161, .slice none 0 0, .string (⟨#[]⟩ : ByteArray)]) ?_ 1 _ rfl; (with_reducible repeat (first | refine blk_drewN ?_ _ | refine blk_drew ?_ | refine blk_alloc ?_ _)); refine blk_put (cs := #[.int .i64 0, .slice none 0 0, .string (⟨#[]⟩ : ByteArray)]) ?_ 0 _ rfl; (with_reducible repeat (first | refine blk_drewN ?_ _ | refine blk_drew ?_ | refine blk_alloc ?_ _)); exact BK167.out⟩
       have n3_ : Aside0 (Below w.heap.size w (((w83.setCell ⟨gb167, 0, none⟩ (.int .i64 t161)).setCell ⟨gb167, 1, none⟩ (.slice Ao82 t162.length co82)).setCell ⟨gb167, 2, none⟩ (.string t163))) := ⟨by repeat (first | (with_reducible first | exact HB.out | apply below_alloc | apply pw_below_drewN | apply below_drew1 | refine below_set ?_ GE157.out | refine below_set ?_ GE167.out) | exact HB.out)⟩
       (try clear HO166)
       (try clear BK157)
       (try clear BK167)
       (try clear HB)
       generalize (((w83.setCell ⟨gb167, 0, none⟩ (.int .i64 t161)).setCell ⟨gb167, 1, none⟩ (.slice Ao82 t162.length co82)).setCell ⟨gb167, 2, none⟩ (.string t163)) = w86 at n0_ n1_ n2_ n3_ ⊢
       have HO166 := n0_
       have BK157 := n1_
       have BK167 := n2_
       have HB := n3_
       clear n0_ n1_ n2_ n3_
       (try (rw [drewN_self w86]; generalize hq_ : World.drewN w86 _ = w86; have n0_ : Aside0 (Kd.R k41 41 w86 w.heap.size (fun _ => True) (.slice Ao82 t162.length co82) t162) := ⟨by rw [← hq_]; exact zb18⟩; have n1_ : Aside0 (w86.heap[gb157]? = some (.cells #[.int .i64 0, .slice none 0 0, .string (⟨#[]⟩ : ByteArray)] 24 (0, 0))) := ⟨by rw [← hq_]; exact zb7⟩; have n2_ : Aside0 (w86.heap[gb167]? = some (.cells #[.int .i64 t161, .slice Ao82 t162.length co82, .string t163] 24 (0, 0))) := ⟨by rw [← hq_]; exact zb25⟩; have n3_ : Aside0 (Below w.heap.size w w86) := ⟨by rw [← hq_]; exact zb8⟩; clear HO166 BK157 BK167 HB hq_; have HO166 := n0_; have BK157 := n1_; have BK167 := n2_; have HB := n3_; clear n0_ n1_ n2_ n3_))
       have n0_ := Aside0.mk (Kd.R_drew HO166.out)
       have n1_ := Aside0.mk (blk_drew BK157.out)
       have n2_ := Aside0.mk (blk_drew BK167.out)
       have n3_ := Aside0.mk (below_drew1 HB.out)
       clear HO166
       clear BK157
       clear BK167
       clear HB
       have HO166 := n0_
       have BK157 := n1_
       have BK167 := n2_
       have HB := n3_
       clear n0_ n1_ n2_ n3_
       refine start_ (n := 19) (S := fun w' => True) (ds := []) #[false, false, false, false, false, false, false, false, false, false, false, false, false, false, false, false, false, false, false] zb11 rfl rfl trivial (fun hHeld => ?_); refine with_tabW response_Parse.tab14 response_Parse.bits14 (fun HT_ HW_ => ?_)
       skip
       refine pure_ (i := 0) (N := some 56) (v := ?_) (a' := ?_) #[true, false, false, false, false, false, false, false, false, false, false, false, false, false, false, false, false, false, false] rfl rfl (any_of HT_.out zb11) (fun _ _ _ h => h) (Or.inl ⟨by rfl, ?_⟩) ?_ ?_
       rotate_left
       ·intro w'
        go_simp
        first | with_reducible rfl | (rw [if_neg zb2])
       rotate_left
       ·simp only [Act.put, List.setIfInBounds_toArray, List.set_cons_zero, List.set_cons_succ, i64_w, i32_w]
        rfl
       refine one_ (i := 1) (N := some 57) #[true, true, false, false, false, false, false, false, false, false, false, false, false, false, false, false, false, false, false] rfl rfl (one_of HT_.out zb11) zb39 (fun K hK => ?_)
       refine goes_ Tryz.func18 zb11 rfl #[.slice Ao82 t162.length co82] (by rfl) rfl rfl zb0 ?_
       with_reducible refine (response_lengths.calls kj3 _ _ t162 t170 _ ?side1 ?side2 A40.out).mono ?_
       (case side1 => repeat (first | exact (Kd.R_reads' HO166.out).2.2 | (with_reducible refine Kd.C_alloc ?_ _) | (with_reducible refine Kd.C_drewN ?_ _) | (with_reducible refine Kd.C_drew ?_)))
       (case side2 => exact (Kd.R_reads' HO166.out).2.1)
       rintro e w88 ⟨rfl, hb⟩
       refine ⟨_, rfl, ?_⟩
       have n0_ := Aside0.mk (Kd.R_below zb18 hb)
       have n1_ := Aside0.mk (blk_below (g := gb157) (o := .cells #[.int .i64 0, .slice none 0 0, .string (⟨#[]⟩ : ByteArray)] 24 (0, 0)) zb7 hb)
       have n2_ := Aside0.mk (blk_below (g := gb167) (o := .cells #[.int .i64 t161, .slice Ao82 t162.length co82, .string t163] 24 (0, 0)) zb25 hb)
       have n3_ := Aside0.mk (below_step zb8 hb)
       clear HO166
       clear BK157
       clear BK167
       clear HB
       have HO166 := n0_
       have BK157 := n1_
       have BK167 := n2_
       have HB := n3_
       clear n0_ n1_ n2_ n3_
       (try clear hb)
       (try clear hb2)
       (try clear hk)
       (try clear hi)
       refine hK.out _ _ trivial (fun hHeld => ?_)
       clear hK K
       refine norm_ (a' := ?_) ?_ ?_
       rotate_left
       ·show Act.put _ (some 57) _ = _
        simp only [Act.put, List.setIfInBounds_toArray, List.set_cons_zero, List.set_cons_succ, i64_w, i32_w]
        rfl
       refine pure_ (i := 2) (N := some 58) (v := ?_) (a' := ?_) #[true, true, true, false, false, false, false, false, false, false, false, false, false, false, false, false, false, false, false] rfl rfl (any_of HT_.out zb11) (fun _ _ _ h => h) (Or.inl ⟨by rfl, ?_⟩) ?_ ?_
       rotate_left
       ·intro w'
        go_simp
        first | with_reducible rfl | (rw [if_neg zb2])
       rotate_left
       ·simp only [Act.put, List.setIfInBounds_toArray, List.set_cons_zero, List.set_cons_succ, i64_w, i32_w]
        rfl
       refine pure_ (i := 3) (N := some 59) (v := ?_) (a' := ?_) #[true, true, true, true, false, false, false, false, false, false, false, false, false, false, false, false, false, false, false] rfl rfl (any_of HT_.out zb11) (fun _ _ _ h => h) (Or.inl ⟨by rfl, ?_⟩) ?_ ?_
       rotate_left
       ·intro w'
        go_simp
        first | with_reducible rfl | (rw [if_neg zb2])
       rotate_left
       ·simp only [Act.put, List.setIfInBounds_toArray, List.set_cons_zero, List.set_cons_succ, i64_w, i32_w]
        rfl
       refine pure_ (i := 4) (N := some 60) (v := undef) (a' := ?_) #[true, true, true, true, true, false, false, false, false, false, false, false, false, false, false, false, false, false, false] rfl rfl (any_of HT_.out zb11) (fun _ _ _ h => h) (Or.inr ⟨by rfl, rfl⟩) ?_ ?_
       rotate_left
       ·simp only [Act.put, List.setIfInBounds_toArray, List.set_cons_zero, List.set_cons_succ, i64_w, i32_w]
        rfl
       refine pure_ (i := 5) (N := some 61) (v := undef) (a' := ?_) #[true, true, true, true, true, true, false, false, false, false, false, false, false, false, false, false, false, false, false] rfl rfl (any_of HT_.out zb11) (fun _ _ _ h => h) (Or.inr ⟨by rfl, rfl⟩) ?_ ?_
       rotate_left
       ·simp only [Act.put, List.setIfInBounds_toArray, List.set_cons_zero, List.set_cons_succ, i64_w, i32_w]
        rfl
       refine pure_ (i := 6) (N := some 62) (v := undef) (a' := ?_) #[true, true, true, true, true, true, true, false, false, false, false, false, false, false, false, false, false, false, false] rfl rfl (any_of HT_.out zb11) (fun _ _ _ h => h) (Or.inr ⟨by rfl, rfl⟩) ?_ ?_
       rotate_left
       ·simp only [Act.put, List.setIfInBounds_toArray, List.set_cons_zero, List.set_cons_succ, i64_w, i32_w]
        rfl
       refine pure_ (i := 7) (N := some 63) (v := undef) (a' := ?_) #[true, true, true, true, true, true, true, true, false, false, false, false, false, false, false, false, false, false, false] rfl rfl (any_of HT_.out zb11) (fun _ _ _ h => h) (Or.inr ⟨by rfl, rfl⟩) ?_ ?_
       rotate_left
       ·simp only [Act.put, List.setIfInBounds_toArray, List.set_cons_zero, List.set_cons_succ, i64_w, i32_w]
        rfl
       refine pure_ (i := 8) (N := some 64) (v := undef) (a' := ?_) #[true, true, true, true, true, true, true, true, true, false, false, false, false, false, false, false, false, false, false] rfl rfl (any_of HT_.out zb11) (fun _ _ _ h => h) (Or.inr ⟨by rfl, rfl⟩) ?_ ?_
       rotate_left
       ·simp only [Act.put, List.setIfInBounds_toArray, List.set_cons_zero, List.set_cons_succ, i64_w, i32_w]
        rfl
       refine pure_ (i := 9) (N := some 65) (v := undef) (a' := ?_) #[true, true, true, true, true, true, true, true, true, true, false, false, false, false, false, false, false, false, false] rfl rfl (any_of HT_.out zb11) (fun _ _ _ h => h) (Or.inr ⟨by rfl, rfl⟩) ?_ ?_
       rotate_left
       ·simp only [Act.put, List.setIfInBounds_toArray, List.set_cons_zero, List.set_cons_succ, i64_w, i32_w]
        rfl
       refine pure_ (i := 10) (N := some 66) (v := undef) (a' := ?_) #[true, true, true, true, true, true, true, true, true, true, true, false, false, false, false, false, false, false, false] rfl rfl (any_of HT_.out zb11) (fun _ _ _ h => h) (Or.inr ⟨by rfl, rfl⟩) ?_ ?_
       rotate_left
       ·simp only [Act.put, List.setIfInBounds_toArray, List.set_cons_zero, List.set_cons_succ, i64_w, i32_w]
        rfl
       refine pure_ (i := 11) (N := some 67) (v := undef) (a' := ?_) #[true, true, true, true, true, true, true, true, true, true, true, true, false, false, false, false, false, false, false] rfl rfl (any_of HT_.out zb11) (fun _ _ _ h => h) (Or.inr ⟨by rfl, rfl⟩) ?_ ?_
       rotate_left
       ·simp only [Act.put, List.setIfInBounds_toArray, List.set_cons_zero, List.set_cons_succ, i64_w, i32_w]
        rfl
       refine pure_ (i := 12) (N := some 68) (v := undef) (a' := ?_) #[true, true, true, true, true, true, true, true, true, true, true, true, true, false, false, false, false, false, false] rfl rfl (any_of HT_.out zb11) (fun _ _ _ h => h) (Or.inr ⟨by rfl, rfl⟩) ?_ ?_
       rotate_left
       ·simp only [Act.put, List.setIfInBounds_toArray, List.set_cons_zero, List.set_cons_succ, i64_w, i32_w]
        rfl
       refine pure_ (i := 13) (N := some 69) (v := ?_) (a' := ?_) #[true, true, true, true, true, true, true, true, true, true, true, true, true, true, false, false, false, false, false] rfl rfl (any_of HT_.out zb11) (fun _ _ _ h => h) (Or.inl ⟨by rfl, ?_⟩) ?_ ?_
       rotate_left
       ·intro w'
        go_simp
        first | with_reducible rfl | (rw [if_neg zb2])
       rotate_left
       ·simp only [Act.put, List.setIfInBounds_toArray, List.set_cons_zero, List.set_cons_succ, i64_w, i32_w]
        rfl
       refine pure_ (i := 14) (N := some 70) (v := ?_) (a' := ?_) #[true, true, true, true, true, true, true, true, true, true, true, true, true, true, true, false, false, false, false] rfl rfl (any_of HT_.out zb11) (fun _ _ _ h => h) (Or.inl ⟨by rfl, ?_⟩) ?_ ?_
       rotate_left
       ·intro w'
        go_simp
        first | with_reducible rfl | (rw [if_neg zb2])
       rotate_left
       ·simp only [Act.put, List.setIfInBounds_toArray, List.set_cons_zero, List.set_cons_succ, i64_w, i32_w]
        rfl
       refine pure_ (i := 15) (N := some 71) (v := undef) (a' := ?_) #[true, true, true, true, true, true, true, true, true, true, true, true, true, true, true, true, false, false, false] rfl rfl (any_of HT_.out zb11) (fun _ _ _ h => h) (Or.inr ⟨by rfl, rfl⟩) ?_ ?_
       rotate_left
       ·simp only [Act.put, List.setIfInBounds_toArray, List.set_cons_zero, List.set_cons_succ, i64_w, i32_w]
        rfl
       refine pure_ (i := 16) (N := some 72) (v := undef) (a' := ?_) #[true, true, true, true, true, true, true, true, true, true, true, true, true, true, true, true, true, false, false] rfl rfl (any_of HT_.out zb11) (fun _ _ _ h => h) (Or.inr ⟨by rfl, rfl⟩) ?_ ?_
       rotate_left
       ·simp only [Act.put, List.setIfInBounds_toArray, List.set_cons_zero, List.set_cons_succ, i64_w, i32_w]
        rfl
       refine pure_ (i := 17) (N := some 73) (v := undef) (a' := ?_) #[true, true, true, true, true, true, true, true, true, true, true, true, true, true, true, true, true, true, false] rfl rfl (any_of HT_.out zb11) (fun _ _ _ h => h) (Or.inr ⟨by rfl, rfl⟩) ?_ ?_
       rotate_left
       ·simp only [Act.put, List.setIfInBounds_toArray, List.set_cons_zero, List.set_cons_succ, i64_w, i32_w]
        rfl
       refine pure_ (i := 18) (N := some 74) (v := ?_) (a' := ?_) #[true, true, true, true, true, true, true, true, true, true, true, true, true, true, true, true, true, true, true] rfl rfl (any_of HT_.out zb11) (fun _ _ _ h => h) (Or.inl ⟨by rfl, ?_⟩) ?_ ?_
       rotate_left
       ·intro w'
        go_simp
        first | with_reducible rfl | (rw [if_neg zb2])
       rotate_left
       ·simp only [Act.put, List.setIfInBounds_toArray, List.set_cons_zero, List.set_cons_succ, i64_w, i32_w]
        rfl
       refine done_ (done_of HT_.out zb11) ?_
       have hcz89_0 : w88.cell? ⟨gb157, 0, none⟩ = some (.int .i64 0) := (blk_cell BK157.out 0).trans rfl
       have hcz89_1 : w88.cell? ⟨gb157, 1, none⟩ = some (.slice none 0 0) := (blk_cell BK157.out 1).trans rfl
       have hcz89_2 : w88.cell? ⟨gb157, 2, none⟩ = some (.string (⟨#[]⟩ : ByteArray)) := (blk_cell BK157.out 2).trans rfl
       have hfz89_0 := blk_frozen BK157.out 0
       have hfz89_1 := blk_frozen BK157.out 1
       have hfz89_2 := blk_frozen BK157.out 2
       try go_wp2
       refine bodyPost_ret (results_ct rfl _ _ gb157 24 #[.int .i64 0, .slice none 0 0, .string (⟨#[]⟩ : ByteArray)] (0, 0) _ rfl zb10 Tryz.underlying24 rfl zb11) rfl ?_
       exact ⟨_, by first | rfl | (simp [errW_none, errW_some, bne_nil_] <;> rfl) | (simp [*, errW_none, errW_some] <;> rfl), by first | exact Kd.R_nil _ _ _ _ _ | exact Kd.N_nil _ _ _ _ _ | exact Kd.V_nil _ _ _ _ _ | exact Kd.Q_nil _ _ _ _ _ | exact Kd.S_nil _ _ _ _ _, zb8⟩
    ·rw [if_neg c12] at H
     have c12b0 : (t164 == 0) = false := beq_eq_false_iff_ne.mpr c12
     have c12b1 : (t164 != 0) = true := bne_iff_ne.mpr c12
     simp only [Option.some.injEq, Prod.mk.injEq] at H
     obtain ⟨rfl, rfl, rfl, rfl⟩ := H
     go_wp2_with (first | ((with_reducible refine gate_callee (f := 29) rfl ?_); refine goesL_ (some 30) rfl rfl Tryz.func29 zb11 rfl #[.string t159] rfl zb0 ?_; (with_reducible refine (field_Parse.calls t159 t162 t163 t164 _ ?side1 A11.out).mono ?_); (case side1 => exact Glob.below hGA.out zb3); rintro e w90 ⟨v165, rfl, ho0, hb⟩; refine ⟨_, rfl, ?_⟩; have n0_ := Aside0.mk (Kd.R_lower ho0 (below_size zb3)); have n1_ := Aside0.mk (blk_below (g := gb157) (o := .cells #[.int .i64 0, .slice none 0 0, .string (⟨#[]⟩ : ByteArray)] 24 (0, 0)) zb7 hb); have n2_ := Aside0.mk (below_step zb3 hb); clear BK157; clear HB; have HO166 := n0_; have BK157 := n1_; have HB := n2_; clear n0_ n1_ n2_; (try clear hb); (try clear hb2); (try clear hk); (try clear hi); (try clear ho0); have hcz91_0 : w90.cell? ⟨gb157, 0, none⟩ = some (.int .i64 0) := (blk_cell BK157.out 0).trans rfl; have hcz91_1 : w90.cell? ⟨gb157, 1, none⟩ = some (.slice none 0 0) := (blk_cell BK157.out 1).trans rfl; have hcz91_2 : w90.cell? ⟨gb157, 2, none⟩ = some (.string (⟨#[]⟩ : ByteArray)) := (blk_cell BK157.out 2).trans rfl; have hfz91_0 := blk_frozen BK157.out 0; have hfz91_1 := blk_frozen BK157.out 1; have hfz91_2 := blk_frozen BK157.out 2))
     refine bodyPost_ret (results_ct rfl _ _ gb157 24 #[.int .i64 0, .slice none 0 0, .string (⟨#[]⟩ : ByteArray)] (0, 0) _ rfl zb10 Tryz.underlying24 rfl zb11) rfl ?_
     exact ⟨_, by first | rfl | (simp [errW_none, errW_some, bne_nil_] <;> rfl) | (simp [*, errW_none, errW_some] <;> rfl), by first | exact Kd.R_nil _ _ _ _ _ | exact Kd.N_nil _ _ _ _ _ | exact Kd.V_nil _ _ _ _ _ | exact Kd.Q_nil _ _ _ _ _ | exact Kd.S_nil _ _ _ _ _, zb3⟩
end Go.Proofs.YtaopopnlnohnpaaGreatDoor.P
/- Obld -/
namespace Go.Proofs.YtaopopnlnohnpaaGreatDoor.O
open Go.RowKit Go.Proofs.YtaopopnlnohnpaaGreatDoorW.PrintWords Go.Proofs.YtaopopnlnohnpaaGreatDoorW.PrintLast Go.Proofs.YtaopopnlnohnpaaGreatDoorW.PrintMore Go.Proofs.YtaopopnlnohnpaaGreatDoor.P Go.Proofs.YtaopopnlnohnpaaGreatDoor.B
set_option linter.unusedVariables false
set_option linter.unusedSimpArgs false
theorem cells_len (s : ByteArray) : (Lib.byteCells s.data.toList).length = s.size := by rw [Lib.byteCells_length, data_length]
theorem cells_append (s t : ByteArray) : Lib.byteCells s.data.toList ++ Lib.strCells t = Lib.byteCells (s ++ t).data.toList := by
  simp [Lib.byteCells, Lib.strCells, ByteArray.data_append]
def Builder_WriteString.f (s0 a1 : ByteArray) : Option (Int × Option Int × ByteArray) := if s0.size + a1.size ≤ 140737488355328 then some ((a1.size : Int), none, s0 ++ a1) else none
theorem Builder_WriteString.calls (g : Nat) (s0_0 : ByteArray) (a1 : ByteArray) (r1 : Int) (r2 : Option Int) (r3 : ByteArray) (w0 w : World) (hI : IsS58 w0 w g s0_0) (hB : Below w0.heap.size w0 w) (h : Builder_WriteString.f s0_0 a1 = some (r1, r2, r3)) :
    Calls Tryz.prog 38 #[.pointer (some ⟨g, 0, none⟩), .string a1] w fun e w' => e = .returned (.tuple #[.int .i64 r1, errW r2]) ∧ IsS58 w0 w' g r3 ∧ Below w0.heap.size w0 w' ∧ KeepB 5 w w' g := by
  unfold Builder_WriteString.f at h
  split at h
  case isFalse => exact absurd h zb46
  rename_i hb
  obtain ⟨rfl, rfl, rfl⟩ : (a1.size : Int) = r1 ∧ none = r2 ∧ s0_0 ++ a1 = r3 := by simpa using h
  refine (Tryz.Builder_WriteString_k w0.heap.size g _ a1 w hI (by rw [cells_len]; exact hb) hB.size).mono ?_
  rintro e w' ⟨rfl, h1, h2, h3⟩
  rw [cells_append] at h1
  exact ⟨rfl, .inr h1, hB.trans h2, ⟨h3⟩⟩
def Builder_String.f (s0 : ByteArray) : Option (ByteArray × ByteArray) := some (s0, s0)
theorem Builder_String.calls (g : Nat) (s0_0 : ByteArray) (r1 : ByteArray) (r2 : ByteArray) (w0 w : World) (hI : IsS58 w0 w g s0_0) (hB : Below w0.heap.size w0 w) (h : Builder_String.f s0_0 = some (r1, r2)) :
    Calls Tryz.prog 40 #[.pointer (some ⟨g, 0, none⟩)] w fun e w' => e = .returned (.string r1) ∧ IsS58 w0 w' g r2 ∧ Below w0.heap.size w0 w' ∧ KeepB 5 w w' g := by
  obtain ⟨rfl, rfl⟩ : s0_0 = r1 ∧ s0_0 = r2 := by simpa [Builder_String.f] using h
  refine (Tryz.Builder_String_any_k w0.heap.size g s0_0.data.toList w hI hB.size).mono ?_
  rintro e w' ⟨rfl, h1, h2, h3⟩
  exact ⟨rfl, h1, hB.trans h2, ⟨h3⟩⟩
def Builder_Len.f (s0 : ByteArray) : Option (Int × ByteArray) := some ((s0.size : Int), s0)
theorem Builder_Len.calls (g : Nat) (s0_0 : ByteArray) (r1 : Int) (r2 : ByteArray) (w0 w : World) (hI : IsS58 w0 w g s0_0) (hB : Below w0.heap.size w0 w) (h : Builder_Len.f s0_0 = some (r1, r2)) :
    Calls Tryz.prog 39 #[.pointer (some ⟨g, 0, none⟩)] w fun e w' => e = .returned (.int .i64 r1) ∧ IsS58 w0 w' g r2 ∧ Below w0.heap.size w0 w' ∧ KeepB 5 w w' g := by
  obtain ⟨rfl, rfl⟩ : (s0_0.size : Int) = r1 ∧ s0_0 = r2 := by simpa [Builder_Len.f] using h
  refine (Tryz.Builder_Len_f w0.heap.size g _ w hI).mono ?_
  rintro e w' ⟨rfl, rfl⟩
  rw [cells_len]
  exact ⟨rfl, hI, hB, ⟨by first | exact Lib.OthersKept.refl _ _ _ | exact ⟨fun _ _ h _ _ => h⟩ | (intro k o hk _ _; exact hk)⟩⟩
end Go.Proofs.YtaopopnlnohnpaaGreatDoor.O
/- Px8 -/
namespace Go.Proofs.YtaopopnlnohnpaaGreatDoor.P
open Go.Proofs.YtaopopnlnohnpaaGreatDoor.B
open Go.RowKit Go.Proofs.YtaopopnlnohnpaaGreatDoorW.PrintWords Go.Proofs.YtaopopnlnohnpaaGreatDoorW.PrintLast Go.Proofs.YtaopopnlnohnpaaGreatDoorW.PrintMore
attribute [local go_sem] str_leq str_gtr str_geq max2_int min2_int max_two min_two max_three min_three max_four min_four
set_option linter.unusedVariables false
set_option linter.unusedSimpArgs false
open Go.Proofs.YtaopopnlnohnpaaGreatDoor.O
def field_Print.l0 : Nat → List (S41) → Int → Int → ByteArray → Option (ByteArray × Int)
  | 0, _, _, _, _ => none
  | k + 1, x7, x8, x9, x122000 => if x9 < x8 then (if 0 ≤ x9 then (if x9 < (x7.length : Int) then ((field_token.f k ((rd_T41 x7 x9).f0)).bind fun t124 => (if t124 = true then ((field_value.f ((rd_T41 x7 x9).f1)).bind fun t125 => (if t125 = true then (if ((rd_T41 x7 x9).f0).size + 2 ≤ 9223372036854775807 then (if (((rd_T41 x7 x9).f0) ++ (⟨#[58, 32]⟩ : ByteArray)).size + ((rd_T41 x7 x9).f1).size ≤ 9223372036854775807 then (if ((((rd_T41 x7 x9).f0) ++ (⟨#[58, 32]⟩ : ByteArray)) ++ ((rd_T41 x7 x9).f1)).size + 2 ≤ 9223372036854775807 then ((Builder_WriteString.f x122000 (((((rd_T41 x7 x9).f0) ++ (⟨#[58, 32]⟩ : ByteArray)) ++ ((rd_T41 x7 x9).f1)) ++ (⟨#[13, 10]⟩ : ByteArray))).bind fun bt126 => (field_Print.l0 k x7 x8 (wrap64 (x9 + 1)) bt126.2.2)) else (none)) else (none)) else (none)) else (some ((⟨#[]⟩ : ByteArray), 180)))) else (some ((⟨#[]⟩ : ByteArray), 180)))) else (none)) else (none)) else ((Builder_WriteString.f x122000 (⟨#[13, 10]⟩ : ByteArray)).bind fun bt129 => ((Builder_Len.f bt129.2.2).bind fun bt132 => (if bt132.1 > 8000 then (some ((⟨#[]⟩ : ByteArray), 2)) else ((Builder_String.f bt132.2).bind fun bt134 => (some (bt134.1, 0))))))
def field_Print.f (k : Nat) (l0 : List (S41)) : Option (ByteArray × Int) := field_Print.l0 k l0 (l0.length : Int) 0 (⟨#[]⟩ : ByteArray)
set_option maxHeartbeats 8000000 in
set_option maxRecDepth 100000 in
theorem field_Print.calls (k : Nat) (A0 : Option Addr) (c0 : Nat) (l0 : List (S41)) (r1 : ByteArray) (r2 : Int) (w : World) (hr0 : Kd.C k41 w A0 l0.length l0) (hc0 : l0.length ≤ c0) (h : field_Print.f k l0 = some (r1, r2)) :
  Calls Tryz.prog 21 #[.slice A0 l0.length c0] w fun e w' => e = .returned (.tuple #[.string r1, .int .i64 r2]) ∧ Below w.heap.size w w' := by
 have hu58 := Tryz.underlying58
 have hu41 := Tryz.underlying41
 have HR0 := Aside0.mk hr0
 have HC0 := Aside0.mk hc0
 clear hr0 hc0
 have HB := Aside0.mk (Below.refl w.heap.size w)
 have H : (field_Print.l0 k l0 (l0.length : Int) 0 (⟨#[]⟩ : ByteArray)) = some (r1, r2) := h
 clear h
 have H' := Aside0.mk H
 clear H
 go_enter Tryz.func21, Tryz.ntmps21
 go_wp2_with (first | ((with_reducible refine gate_dst (N := 4) rfl ?_); refine box_event ?hg (N := 4) ?hd (cs := #[.pointer none, .slice none 0 0]) (t := 58) ?hr ?_; (case hd => rfl); (case hg => rfl); (case hr => first | (go_simp; done) | (go_simp; rfl)); intro gb121 hg w2 hbox hb; have n0_ := Aside0.mk (below_step zb1 hb); have n1_ := Aside0.mk ((by rw [hg]; exact (below_size zb1) : w.heap.size ≤ gb121)); have n2_ := Aside0.mk ((by rw [hg]; exact (below_size zb1) : w.heap.size ≤ gb121)); have n3_ := Aside0.mk ((show IsS58 w w2 gb121 (⟨#[]⟩ : ByteArray) from IsS58.new hbox (by rw [hg]; exact (below_size zb1)))); clear HB; have HB := n0_; have GW121 := n1_; have GE121 := n2_; have HI121 := n3_; clear n0_ n1_ n2_ n3_; clear hb hbox hg))
 first | go_loopg [9] k (fun kq v9 w' => ∃ (x9_1 : Int) (x122000_1 : ByteArray), v9 = .int .i64 x9_1 ∧ Aside0 (field_Print.l0 kq l0 (l0.length : Int) x9_1 x122000_1 = some (r1, r2)) ∧ Aside0 (kq ≤ k) ∧ Aside0 (IsS58 w w' gb121 x122000_1) ∧ Aside0 (Below w.heap.size w w')) | (go_simp; go_loopg [9] k (fun kq v9 w' => ∃ (x9_1 : Int) (x122000_1 : ByteArray), v9 = .int .i64 x9_1 ∧ Aside0 (field_Print.l0 kq l0 (l0.length : Int) x9_1 x122000_1 = some (r1, r2)) ∧ Aside0 (kq ≤ k) ∧ Aside0 (IsS58 w w' gb121 x122000_1) ∧ Aside0 (Below w.heap.size w w')))
 case atStart => exact ⟨(0), ((⟨#[]⟩ : ByteArray)), zb12, H', ⟨Nat.le_refl _⟩, ⟨by repeat (first | (with_reducible first | exact HI121.out | apply IsS58.alloc | apply IsS58.drewN | apply IsS58.drew) | exact HI121.out)⟩, ⟨by repeat (first | (with_reducible first | exact HB.out | apply below_alloc | apply pw_below_drewN | apply below_drew1 | refine below_set ?_ (IsS58.ge HI121.out)) | exact HB.out)⟩⟩
 case round =>
  clear H'
  try clear c2
  try clear p2
  obtain ⟨x9_1, x122000_1, rfl, HA, HK1, HI121, HB⟩ := hrel
  cases gk with
  | zero => exact absurd HA.out (by simp [field_Print.l0])
  | succ k1 =>
   have H := HA.out
   clear HA
   simp only [field_Print.l0] at H
   by_cases c3 : x9_1 < (l0.length : Int)
   ·rw [if_pos c3] at H
    have c3b0 : decide (x9_1 < (l0.length : Int)) = true := decide_eq_true c3
    clear c3
    by_cases c4 : 0 ≤ x9_1
    ·rw [if_pos c4] at H
     have c4b0 : decide (0 ≤ x9_1) = true := decide_eq_true c4
     clear c4
     by_cases c5 : x9_1 < (l0.length : Int)
     ·rw [if_pos c5] at H
      have c5b0 : decide (x9_1 < (l0.length : Int)) = true := decide_eq_true c5
      clear c5
      replace H := Option.bind_eq_some_iff.mp H
      obtain ⟨t124, A60, H⟩ := H
      replace H : (if t124 = true then ((field_value.f ((rd_T41 l0 x9_1).f1)).bind fun t125 => (if t125 = true then (if ((rd_T41 l0 x9_1).f0).size + 2 ≤ 9223372036854775807 then (if (((rd_T41 l0 x9_1).f0) ++ (⟨#[58, 32]⟩ : ByteArray)).size + ((rd_T41 l0 x9_1).f1).size ≤ 9223372036854775807 then (if ((((rd_T41 l0 x9_1).f0) ++ (⟨#[58, 32]⟩ : ByteArray)) ++ ((rd_T41 l0 x9_1).f1)).size + 2 ≤ 9223372036854775807 then ((Builder_WriteString.f x122000_1 (((((rd_T41 l0 x9_1).f0) ++ (⟨#[58, 32]⟩ : ByteArray)) ++ ((rd_T41 l0 x9_1).f1)) ++ (⟨#[13, 10]⟩ : ByteArray))).bind fun bt126 => (field_Print.l0 k1 l0 (l0.length : Int) (wrap64 (x9_1 + 1)) bt126.2.2)) else (none)) else (none)) else (none)) else (some ((⟨#[]⟩ : ByteArray), 180)))) else (some ((⟨#[]⟩ : ByteArray), 180))) = some (r1, r2) := H
      have A6 := Aside0.mk A60
      clear A60
      by_cases c7 : t124 = true
      ·subst c7
       replace H : ((field_value.f ((rd_T41 l0 x9_1).f1)).bind fun t125 => (if t125 = true then (if ((rd_T41 l0 x9_1).f0).size + 2 ≤ 9223372036854775807 then (if (((rd_T41 l0 x9_1).f0) ++ (⟨#[58, 32]⟩ : ByteArray)).size + ((rd_T41 l0 x9_1).f1).size ≤ 9223372036854775807 then (if ((((rd_T41 l0 x9_1).f0) ++ (⟨#[58, 32]⟩ : ByteArray)) ++ ((rd_T41 l0 x9_1).f1)).size + 2 ≤ 9223372036854775807 then ((Builder_WriteString.f x122000_1 (((((rd_T41 l0 x9_1).f0) ++ (⟨#[58, 32]⟩ : ByteArray)) ++ ((rd_T41 l0 x9_1).f1)) ++ (⟨#[13, 10]⟩ : ByteArray))).bind fun bt126 => (field_Print.l0 k1 l0 (l0.length : Int) (wrap64 (x9_1 + 1)) bt126.2.2)) else (none)) else (none)) else (none)) else (some ((⟨#[]⟩ : ByteArray), 180)))) = some (r1, r2) := by rw [if_pos rfl] at H; exact H
       replace H := Option.bind_eq_some_iff.mp H
       obtain ⟨t125, A80, H⟩ := H
       replace H : (if t125 = true then (if ((rd_T41 l0 x9_1).f0).size + 2 ≤ 9223372036854775807 then (if (((rd_T41 l0 x9_1).f0) ++ (⟨#[58, 32]⟩ : ByteArray)).size + ((rd_T41 l0 x9_1).f1).size ≤ 9223372036854775807 then (if ((((rd_T41 l0 x9_1).f0) ++ (⟨#[58, 32]⟩ : ByteArray)) ++ ((rd_T41 l0 x9_1).f1)).size + 2 ≤ 9223372036854775807 then ((Builder_WriteString.f x122000_1 (((((rd_T41 l0 x9_1).f0) ++ (⟨#[58, 32]⟩ : ByteArray)) ++ ((rd_T41 l0 x9_1).f1)) ++ (⟨#[13, 10]⟩ : ByteArray))).bind fun bt126 => (field_Print.l0 k1 l0 (l0.length : Int) (wrap64 (x9_1 + 1)) bt126.2.2)) else (none)) else (none)) else (none)) else (some ((⟨#[]⟩ : ByteArray), 180))) = some (r1, r2) := H
       have A8 := Aside0.mk A80
       clear A80
       by_cases c9 : t125 = true
       ·subst c9
        replace H : (if ((rd_T41 l0 x9_1).f0).size + 2 ≤ 9223372036854775807 then (if (((rd_T41 l0 x9_1).f0) ++ (⟨#[58, 32]⟩ : ByteArray)).size + ((rd_T41 l0 x9_1).f1).size ≤ 9223372036854775807 then (if ((((rd_T41 l0 x9_1).f0) ++ (⟨#[58, 32]⟩ : ByteArray)) ++ ((rd_T41 l0 x9_1).f1)).size + 2 ≤ 9223372036854775807 then ((Builder_WriteString.f x122000_1 (((((rd_T41 l0 x9_1).f0) ++ (⟨#[58, 32]⟩ : ByteArray)) ++ ((rd_T41 l0 x9_1).f1)) ++ (⟨#[13, 10]⟩ : ByteArray))).bind fun bt126 => (field_Print.l0 k1 l0 (l0.length : Int) (wrap64 (x9_1 + 1)) bt126.2.2)) else (none)) else (none)) else (none)) = some (r1, r2) := by rw [if_pos rfl] at H; exact H
        by_cases c10 : ((rd_T41 l0 x9_1).f0).size + 2 ≤ 9223372036854775807
        ·rw [if_pos c10] at H
         have c10b0 := eq_true c10
         have c10b1 : decide (((rd_T41 l0 x9_1).f0).size + 2 ≤ 9223372036854775807) = true := decide_eq_true c10
         try have c10b2 : (9223372036854775807 < ((rd_T41 l0 x9_1).f0).size + 2) = False := eq_false (Nat.not_lt.2 c10)
         by_cases c11 : (((rd_T41 l0 x9_1).f0) ++ (⟨#[58, 32]⟩ : ByteArray)).size + ((rd_T41 l0 x9_1).f1).size ≤ 9223372036854775807
         ·rw [if_pos c11] at H
          have c11b0 := eq_true c11
          have c11b1 : decide ((((rd_T41 l0 x9_1).f0) ++ (⟨#[58, 32]⟩ : ByteArray)).size + ((rd_T41 l0 x9_1).f1).size ≤ 9223372036854775807) = true := decide_eq_true c11
          try have c11b2 : (9223372036854775807 < (((rd_T41 l0 x9_1).f0) ++ (⟨#[58, 32]⟩ : ByteArray)).size + ((rd_T41 l0 x9_1).f1).size) = False := eq_false (Nat.not_lt.2 c11)
          obtain ⟨nc11, hc11⟩ : ∃ n_ : Nat, n_ = (((rd_T41 l0 x9_1).f0) ++ (⟨#[58, 32]⟩ : ByteArray)).size + ((rd_T41 l0 x9_1).f1).size := ⟨_, rfl⟩
          have c11m0 : nc11 ≤ 9223372036854775807 := by rw [hc11]; exact c11
          (first | simp [go_sem, c10b0] at hc11 | simp [go_sem] at hc11 | skip)
          rw [hc11] at c11m0
          have c11m1 := eq_false (Nat.not_lt.2 c11m0)
          have c11m2 := decide_eq_true c11m0
          clear hc11 c11m0
          by_cases c12 : ((((rd_T41 l0 x9_1).f0) ++ (⟨#[58, 32]⟩ : ByteArray)) ++ ((rd_T41 l0 x9_1).f1)).size + 2 ≤ 9223372036854775807
          ·rw [if_pos c12] at H
           have c12b0 := eq_true c12
           have c12b1 : decide (((((rd_T41 l0 x9_1).f0) ++ (⟨#[58, 32]⟩ : ByteArray)) ++ ((rd_T41 l0 x9_1).f1)).size + 2 ≤ 9223372036854775807) = true := decide_eq_true c12
           try have c12b2 : (9223372036854775807 < ((((rd_T41 l0 x9_1).f0) ++ (⟨#[58, 32]⟩ : ByteArray)) ++ ((rd_T41 l0 x9_1).f1)).size + 2) = False := eq_false (Nat.not_lt.2 c12)
           obtain ⟨nc12, hc12⟩ : ∃ n_ : Nat, n_ = ((((rd_T41 l0 x9_1).f0) ++ (⟨#[58, 32]⟩ : ByteArray)) ++ ((rd_T41 l0 x9_1).f1)).size + 2 := ⟨_, rfl⟩
           have c12m0 : nc12 ≤ 9223372036854775807 := by rw [hc12]; exact c12
           (first | simp [go_sem, c10b0, c11b0] at hc12 | simp [go_sem] at hc12 | skip)
           rw [hc12] at c12m0
           have c12m1 := eq_false (Nat.not_lt.2 c12m0)
           have c12m2 := decide_eq_true c12m0
           clear hc12 c12m0
           replace H := Option.bind_eq_some_iff.mp H
           obtain ⟨⟨t126, t127, t128⟩, A130, H⟩ := H
           replace H : (field_Print.l0 k1 l0 (l0.length : Int) (wrap64 (x9_1 + 1)) t128) = some (r1, r2) := H
           have A13 := Aside0.mk A130
           clear A130
           have H' := Aside0.mk H
           clear H
           have p122 : 0 ≤ (x9_1 : Int) := of_decide_eq_true zb4
           have q122 : x9_1 < (l0.length : Int) := of_decide_eq_true zb4
           obtain ⟨ad122, e122, hx122_0, hx122_1⟩ := at_T41 HR0.out x9_1 p122 q122
           cases e122
           replace hx122_0 := (HB.out.cell (World.block_lt_of_cell? w _ hx122_0)).trans hx122_0
           replace hx122_1 := (HB.out.cell (World.block_lt_of_cell? w _ hx122_1)).trans hx122_1
           replace p122 := eq_true p122
           replace q122 := eq_true q122
           go_wp2_with (first | ((with_reducible refine gate_dst (N := 6) rfl ?_); refine box_event ?hg (N := 6) ?hd (cs := #[.string (⟨#[]⟩ : ByteArray), .string (⟨#[]⟩ : ByteArray)]) (t := 41) ?hr ?_; (case hd => rfl); (case hg => rfl); (case hr => first | (go_simp; done) | (go_simp; rfl)); intro gb123 hg w14 hbox hb; have n0_ := Aside0.mk (IsS58.below zb60 hb); have n1_ := Aside0.mk (below_step zb19 hb); have n2_ := Aside0.mk (hbox); have n3_ := Aside0.mk ((by rw [hg]; exact (below_size zb19) : w.heap.size ≤ gb123)); have n4_ := Aside0.mk ((by rw [hg]; exact (below_size zb19) : w.heap.size ≤ gb123)); have n5_ := Aside0.mk ((by rw [hg]; exact Nat.ne_of_lt (IsS58.lt (show IsS58 w _ gb121 x122000_1 from by repeat (first | (with_reducible first | exact HI121.out | apply IsS58.alloc | apply IsS58.drewN | apply IsS58.drew) | exact HI121.out))) : gb121 ≠ gb123)); have n6_ := Aside0.mk ((by rw [hg]; exact Nat.ne_of_gt (IsS58.lt (show IsS58 w _ gb121 x122000_1 from by repeat (first | (with_reducible first | exact HI121.out | apply IsS58.alloc | apply IsS58.drewN | apply IsS58.drew) | exact HI121.out))) : gb123 ≠ gb121)); clear HI121; clear HB; have HI121 := n0_; have HB := n1_; have BK123 := n2_; have GW123 := n3_; have GE123 := n4_; have NB121_123 := n5_; have NB123_121 := n6_; clear n0_ n1_ n2_ n3_ n4_ n5_ n6_; clear hb hbox hg; have hnb15 := NB123_121.out; have hnc15 := NB121_123.out; have hcz16_0 : w14.cell? ⟨gb123, 0, none⟩ = some (.string (⟨#[]⟩ : ByteArray)) := (blk_cell BK123.out 0).trans rfl; have hcz16_1 : w14.cell? ⟨gb123, 1, none⟩ = some (.string (⟨#[]⟩ : ByteArray)) := (blk_cell BK123.out 1).trans rfl; have hfz16_0 := blk_frozen BK123.out 0; have hfz16_1 := blk_frozen BK123.out 1) | ((with_reducible refine gate_callee (f := 36) rfl ?_); refine goesL_ (some 15) rfl rfl Tryz.func36 zb11 rfl #[.string ((rd_T41 l0 x9_1).f0)] rfl zb0 ?_; (with_reducible refine (field_token.calls k1 ((rd_T41 l0 x9_1).f0) true _ A6.out).mono ?_); rintro e w17 ⟨rfl, hb⟩; refine ⟨_, rfl, ?_⟩; have n0_ := Aside0.mk (IsS58.below (show IsS58 w ((w14.setCell ⟨gb123, 0, none⟩ (.string ((rd_T41 l0 x9_1).f0))).setCell ⟨gb123, 1, none⟩ (.string ((rd_T41 l0 x9_1).f1))) gb121 x122000_1 from by repeat (first | (with_reducible first | exact HI121.out | apply IsS58.alloc | apply IsS58.drewN | apply IsS58.drew | refine IsS58.farB ?_ NB121_123.out zb38 zb39 _) | exact HI121.out)) hb); have n1_ := Aside0.mk (blk_below (g := gb123) (o := .cells #[.string ((rd_T41 l0 x9_1).f0), .string ((rd_T41 l0 x9_1).f1)] 41 (0, 0)) zb28 hb); have n2_ := Aside0.mk (below_step zb24 hb); clear HI121; clear BK123; clear HB; have HI121 := n0_; have BK123 := n1_; have HB := n2_; clear n0_ n1_ n2_; (try clear hb); (try clear hb2); (try clear hk); (try clear hi); have hcz18_0 : w17.cell? ⟨gb123, 0, none⟩ = some (.string ((rd_T41 l0 x9_1).f0)) := (blk_cell BK123.out 0).trans rfl; have hcz18_1 : w17.cell? ⟨gb123, 1, none⟩ = some (.string ((rd_T41 l0 x9_1).f1)) := (blk_cell BK123.out 1).trans rfl; have hfz18_0 := blk_frozen BK123.out 0; have hfz18_1 := blk_frozen BK123.out 1) | (go_at_call 37; (with_reducible refine (field_value.calls ((rd_T41 l0 x9_1).f1) true _ A8.out).mono ?_); rintro e w19 ⟨rfl, hb⟩; have n0_ := Aside0.mk (IsS58.below (by repeat (first | (with_reducible first | exact HI121.out | apply IsS58.alloc | apply IsS58.drewN | apply IsS58.drew | refine IsS58.farB ?_ NB121_123.out zb38 zb39 _) | exact HI121.out)) hb); have n1_ := Aside0.mk (blk_below (g := gb123) (o := .cells #[.string ((rd_T41 l0 x9_1).f0), .string ((rd_T41 l0 x9_1).f1)] 41 (0, 0)) zb62 hb); have n2_ := Aside0.mk (below_step zb24 hb); clear HI121; clear BK123; clear HB; have HI121 := n0_; have BK123 := n1_; have HB := n2_; clear n0_ n1_ n2_; (try clear hb); (try clear hb2); (try clear hk); (try clear hi); have hcz20_0 : w19.cell? ⟨gb123, 0, none⟩ = some (.string ((rd_T41 l0 x9_1).f0)) := (blk_cell BK123.out 0).trans rfl; have hcz20_1 : w19.cell? ⟨gb123, 1, none⟩ = some (.string ((rd_T41 l0 x9_1).f1)) := (blk_cell BK123.out 1).trans rfl; have hfz20_0 := blk_frozen BK123.out 0; have hfz20_1 := blk_frozen BK123.out 1) | ((with_reducible refine gate_callee (f := 38) rfl ?_); refine goesL_ (some 30) rfl rfl Tryz.func38 zb11 rfl #[.pointer (some ⟨gb121, 0, none⟩), .string (((((rd_T41 l0 x9_1).f0) ++ (⟨#[58, 32]⟩ : ByteArray)) ++ ((rd_T41 l0 x9_1).f1)) ++ (⟨#[13, 10]⟩ : ByteArray))] rfl zb0 ?_; (with_reducible refine (Builder_WriteString.calls gb121 x122000_1 (((((rd_T41 l0 x9_1).f0) ++ (⟨#[58, 32]⟩ : ByteArray)) ++ ((rd_T41 l0 x9_1).f1)) ++ (⟨#[13, 10]⟩ : ByteArray)) t126 t127 t128 w _ ?side1 ?side2 A13.out).mono ?_); (case side1 => repeat (first | (with_reducible first | exact HI121.out | apply IsS58.alloc | apply IsS58.drewN | apply IsS58.drew | refine IsS58.farB ?_ NB121_123.out zb38 zb39 _) | exact HI121.out)); (case side2 => repeat (first | (with_reducible first | exact HB.out | apply below_alloc | apply pw_below_drewN | apply below_drew1 | refine below_set ?_ (IsS58.ge HI121.out) | refine below_set ?_ GE123.out) | exact HB.out)); rintro e w21 ⟨rfl, hi, hb, hk⟩; refine ⟨_, rfl, ?_⟩; have n0_ := Aside0.mk (blk_keepO hk (g := gb123) (o := .cells #[.string ((rd_T41 l0 x9_1).f0), .string ((rd_T41 l0 x9_1).f1)] 41 (0, 0)) zb62 rfl zb39 NB123_121.out); have n1_ := Aside0.mk (hb); have n2_ := Aside0.mk (hi); clear BK123; clear HB; clear HI121; have BK123 := n0_; have HB := n1_; have HI121 := n2_; clear n0_ n1_ n2_; (try clear hb); (try clear hk); (try clear hi); (try simp only [errW_none, errW_some])))
           go_roundg k1
           case measure => have := HK1.out; omega
           case rel => exact ⟨(wrap64 (x9_1 + 1)), (t128), zb12, H', ⟨by have := HK1.out; omega⟩, ⟨by repeat (first | (with_reducible first | exact HI121.out | apply IsS58.alloc | apply IsS58.drewN | apply IsS58.drew | refine IsS58.farB ?_ NB121_123.out zb38 zb39 _) | exact HI121.out)⟩, ⟨by repeat (first | (with_reducible first | exact HB.out | apply below_alloc | apply pw_below_drewN | apply below_drew1 | refine below_set ?_ (IsS58.ge HI121.out) | refine below_set ?_ GE123.out) | exact HB.out)⟩⟩
          ·rw [if_neg c12] at H
           exact absurd H zb46
         ·rw [if_neg c11] at H
          exact absurd H zb46
        ·rw [if_neg c10] at H
         exact absurd H zb46
       ·replace c9 := Bool.eq_false_iff.mpr c9
        subst c9
        replace H : (some ((⟨#[]⟩ : ByteArray), 180)) = some (r1, r2) := by rw [if_neg (show ¬ (false = true) by decide)] at H; exact H
        simp only [Option.some.injEq, Prod.mk.injEq] at H
        obtain ⟨rfl, rfl⟩ := H
        have p122 : 0 ≤ (x9_1 : Int) := of_decide_eq_true zb4
        have q122 : x9_1 < (l0.length : Int) := of_decide_eq_true zb4
        obtain ⟨ad122, e122, hx122_0, hx122_1⟩ := at_T41 HR0.out x9_1 p122 q122
        cases e122
        replace hx122_0 := (HB.out.cell (World.block_lt_of_cell? w _ hx122_0)).trans hx122_0
        replace hx122_1 := (HB.out.cell (World.block_lt_of_cell? w _ hx122_1)).trans hx122_1
        replace p122 := eq_true p122
        replace q122 := eq_true q122
        go_wp2_with (first | ((with_reducible refine gate_dst (N := 6) rfl ?_); refine box_event ?hg (N := 6) ?hd (cs := #[.string (⟨#[]⟩ : ByteArray), .string (⟨#[]⟩ : ByteArray)]) (t := 41) ?hr ?_; (case hd => rfl); (case hg => rfl); (case hr => first | (go_simp; done) | (go_simp; rfl)); intro gb123 hg w22 hbox hb; have n0_ := Aside0.mk (IsS58.below zb60 hb); have n1_ := Aside0.mk (below_step zb19 hb); have n2_ := Aside0.mk (hbox); have n3_ := Aside0.mk ((by rw [hg]; exact (below_size zb19) : w.heap.size ≤ gb123)); have n4_ := Aside0.mk ((by rw [hg]; exact (below_size zb19) : w.heap.size ≤ gb123)); have n5_ := Aside0.mk ((by rw [hg]; exact Nat.ne_of_lt (IsS58.lt (show IsS58 w _ gb121 x122000_1 from by repeat (first | (with_reducible first | exact HI121.out | apply IsS58.alloc | apply IsS58.drewN | apply IsS58.drew) | exact HI121.out))) : gb121 ≠ gb123)); have n6_ := Aside0.mk ((by rw [hg]; exact Nat.ne_of_gt (IsS58.lt (show IsS58 w _ gb121 x122000_1 from by repeat (first | (with_reducible first | exact HI121.out | apply IsS58.alloc | apply IsS58.drewN | apply IsS58.drew) | exact HI121.out))) : gb123 ≠ gb121)); clear HI121; clear HB; have HI121 := n0_; have HB := n1_; have BK123 := n2_; have GW123 := n3_; have GE123 := n4_; have NB121_123 := n5_; have NB123_121 := n6_; clear n0_ n1_ n2_ n3_ n4_ n5_ n6_; clear hb hbox hg; have hnb23 := NB123_121.out; have hnc23 := NB121_123.out; have hcz24_0 : w22.cell? ⟨gb123, 0, none⟩ = some (.string (⟨#[]⟩ : ByteArray)) := (blk_cell BK123.out 0).trans rfl; have hcz24_1 : w22.cell? ⟨gb123, 1, none⟩ = some (.string (⟨#[]⟩ : ByteArray)) := (blk_cell BK123.out 1).trans rfl; have hfz24_0 := blk_frozen BK123.out 0; have hfz24_1 := blk_frozen BK123.out 1) | ((with_reducible refine gate_callee (f := 36) rfl ?_); refine goesL_ (some 15) rfl rfl Tryz.func36 zb11 rfl #[.string ((rd_T41 l0 x9_1).f0)] rfl zb0 ?_; (with_reducible refine (field_token.calls k1 ((rd_T41 l0 x9_1).f0) true _ A6.out).mono ?_); rintro e w25 ⟨rfl, hb⟩; refine ⟨_, rfl, ?_⟩; have n0_ := Aside0.mk (IsS58.below (show IsS58 w ((w22.setCell ⟨gb123, 0, none⟩ (.string ((rd_T41 l0 x9_1).f0))).setCell ⟨gb123, 1, none⟩ (.string ((rd_T41 l0 x9_1).f1))) gb121 x122000_1 from by repeat (first | (with_reducible first | exact HI121.out | apply IsS58.alloc | apply IsS58.drewN | apply IsS58.drew | refine IsS58.farB ?_ NB121_123.out zb38 zb39 _) | exact HI121.out)) hb); have n1_ := Aside0.mk (blk_below (g := gb123) (o := .cells #[.string ((rd_T41 l0 x9_1).f0), .string ((rd_T41 l0 x9_1).f1)] 41 (0, 0)) zb28 hb); have n2_ := Aside0.mk (below_step zb24 hb); clear HI121; clear BK123; clear HB; have HI121 := n0_; have BK123 := n1_; have HB := n2_; clear n0_ n1_ n2_; (try clear hb); (try clear hb2); (try clear hk); (try clear hi); have hcz26_0 : w25.cell? ⟨gb123, 0, none⟩ = some (.string ((rd_T41 l0 x9_1).f0)) := (blk_cell BK123.out 0).trans rfl; have hcz26_1 : w25.cell? ⟨gb123, 1, none⟩ = some (.string ((rd_T41 l0 x9_1).f1)) := (blk_cell BK123.out 1).trans rfl; have hfz26_0 := blk_frozen BK123.out 0; have hfz26_1 := blk_frozen BK123.out 1) | (go_at_call 37; (with_reducible refine (field_value.calls ((rd_T41 l0 x9_1).f1) false _ A8.out).mono ?_); rintro e w27 ⟨rfl, hb⟩; have n0_ := Aside0.mk (IsS58.below (by repeat (first | (with_reducible first | exact HI121.out | apply IsS58.alloc | apply IsS58.drewN | apply IsS58.drew | refine IsS58.farB ?_ NB121_123.out zb38 zb39 _) | exact HI121.out)) hb); have n1_ := Aside0.mk (blk_below (g := gb123) (o := .cells #[.string ((rd_T41 l0 x9_1).f0), .string ((rd_T41 l0 x9_1).f1)] 41 (0, 0)) zb62 hb); have n2_ := Aside0.mk (below_step zb24 hb); clear HI121; clear BK123; clear HB; have HI121 := n0_; have BK123 := n1_; have HB := n2_; clear n0_ n1_ n2_; (try clear hb); (try clear hb2); (try clear hk); (try clear hi)))
        go_ret2
        exact ⟨zb9, zb24⟩
      ·replace c7 := Bool.eq_false_iff.mpr c7
       subst c7
       replace H : (some ((⟨#[]⟩ : ByteArray), 180)) = some (r1, r2) := by rw [if_neg (show ¬ (false = true) by decide)] at H; exact H
       simp only [Option.some.injEq, Prod.mk.injEq] at H
       obtain ⟨rfl, rfl⟩ := H
       have p122 : 0 ≤ (x9_1 : Int) := of_decide_eq_true zb4
       have q122 : x9_1 < (l0.length : Int) := of_decide_eq_true zb4
       obtain ⟨ad122, e122, hx122_0, hx122_1⟩ := at_T41 HR0.out x9_1 p122 q122
       cases e122
       replace hx122_0 := (HB.out.cell (World.block_lt_of_cell? w _ hx122_0)).trans hx122_0
       replace hx122_1 := (HB.out.cell (World.block_lt_of_cell? w _ hx122_1)).trans hx122_1
       replace p122 := eq_true p122
       replace q122 := eq_true q122
       go_wp2_with (first | ((with_reducible refine gate_dst (N := 6) rfl ?_); refine box_event ?hg (N := 6) ?hd (cs := #[.string (⟨#[]⟩ : ByteArray), .string (⟨#[]⟩ : ByteArray)]) (t := 41) ?hr ?_; (case hd => rfl); (case hg => rfl); (case hr => first | (go_simp; done) | (go_simp; rfl)); intro gb123 hg w28 hbox hb; have n0_ := Aside0.mk (IsS58.below zb60 hb); have n1_ := Aside0.mk (below_step zb19 hb); have n2_ := Aside0.mk (hbox); have n3_ := Aside0.mk ((by rw [hg]; exact (below_size zb19) : w.heap.size ≤ gb123)); have n4_ := Aside0.mk ((by rw [hg]; exact (below_size zb19) : w.heap.size ≤ gb123)); have n5_ := Aside0.mk ((by rw [hg]; exact Nat.ne_of_lt (IsS58.lt (show IsS58 w _ gb121 x122000_1 from by repeat (first | (with_reducible first | exact HI121.out | apply IsS58.alloc | apply IsS58.drewN | apply IsS58.drew) | exact HI121.out))) : gb121 ≠ gb123)); have n6_ := Aside0.mk ((by rw [hg]; exact Nat.ne_of_gt (IsS58.lt (show IsS58 w _ gb121 x122000_1 from by repeat (first | (with_reducible first | exact HI121.out | apply IsS58.alloc | apply IsS58.drewN | apply IsS58.drew) | exact HI121.out))) : gb123 ≠ gb121)); clear HI121; clear HB; have HI121 := n0_; have HB := n1_; have BK123 := n2_; have GW123 := n3_; have GE123 := n4_; have NB121_123 := n5_; have NB123_121 := n6_; clear n0_ n1_ n2_ n3_ n4_ n5_ n6_; clear hb hbox hg; have hnb29 := NB123_121.out; have hnc29 := NB121_123.out; have hcz30_0 : w28.cell? ⟨gb123, 0, none⟩ = some (.string (⟨#[]⟩ : ByteArray)) := (blk_cell BK123.out 0).trans rfl; have hcz30_1 : w28.cell? ⟨gb123, 1, none⟩ = some (.string (⟨#[]⟩ : ByteArray)) := (blk_cell BK123.out 1).trans rfl; have hfz30_0 := blk_frozen BK123.out 0; have hfz30_1 := blk_frozen BK123.out 1) | ((with_reducible refine gate_callee (f := 36) rfl ?_); refine goesL_ (some 15) rfl rfl Tryz.func36 zb11 rfl #[.string ((rd_T41 l0 x9_1).f0)] rfl zb0 ?_; (with_reducible refine (field_token.calls k1 ((rd_T41 l0 x9_1).f0) false _ A6.out).mono ?_); rintro e w31 ⟨rfl, hb⟩; refine ⟨_, rfl, ?_⟩; have n0_ := Aside0.mk (IsS58.below (show IsS58 w ((w28.setCell ⟨gb123, 0, none⟩ (.string ((rd_T41 l0 x9_1).f0))).setCell ⟨gb123, 1, none⟩ (.string ((rd_T41 l0 x9_1).f1))) gb121 x122000_1 from by repeat (first | (with_reducible first | exact HI121.out | apply IsS58.alloc | apply IsS58.drewN | apply IsS58.drew | refine IsS58.farB ?_ NB121_123.out zb38 zb39 _) | exact HI121.out)) hb); have n1_ := Aside0.mk (blk_below (g := gb123) (o := .cells #[.string ((rd_T41 l0 x9_1).f0), .string ((rd_T41 l0 x9_1).f1)] 41 (0, 0)) zb28 hb); have n2_ := Aside0.mk (below_step zb24 hb); clear HI121; clear BK123; clear HB; have HI121 := n0_; have BK123 := n1_; have HB := n2_; clear n0_ n1_ n2_; (try clear hb); (try clear hb2); (try clear hk); (try clear hi)))
       go_ret2
       exact ⟨zb9, zb24⟩
     ·rw [if_neg c5] at H
      exact absurd H zb46
    ·rw [if_neg c4] at H
     exact absurd H zb46
   ·rw [if_neg c3] at H
    have c3b0 : decide (x9_1 < (l0.length : Int)) = false := decide_eq_false c3
    clear c3
    replace H := Option.bind_eq_some_iff.mp H
    obtain ⟨⟨t129, t130, t131⟩, A320, H⟩ := H
    replace H : ((Builder_Len.f t131).bind fun bt132 => (if bt132.1 > 8000 then (some ((⟨#[]⟩ : ByteArray), 2)) else ((Builder_String.f bt132.2).bind fun bt134 => (some (bt134.1, 0))))) = some (r1, r2) := H
    have A32 := Aside0.mk A320
    clear A320
    replace H := Option.bind_eq_some_iff.mp H
    obtain ⟨⟨t132, t133⟩, A330, H⟩ := H
    replace H : (if t132 > 8000 then (some ((⟨#[]⟩ : ByteArray), 2)) else ((Builder_String.f t133).bind fun bt134 => (some (bt134.1, 0)))) = some (r1, r2) := H
    have A33 := Aside0.mk A330
    clear A330
    by_cases c34 : t132 > 8000
    ·rw [if_pos c34] at H
     have c34b0 : decide (8000 < t132) = true := decide_eq_true c34
     clear c34
     simp only [Option.some.injEq, Prod.mk.injEq] at H
     obtain ⟨rfl, rfl⟩ := H
     go_wp2_with (first | ((with_reducible refine gate_callee (f := 38) rfl ?_); refine goesL_ (some 32) rfl rfl Tryz.func38 zb11 rfl #[.pointer (some ⟨gb121, 0, none⟩), .string (⟨#[13, 10]⟩ : ByteArray)] rfl zb0 ?_; (with_reducible refine (Builder_WriteString.calls gb121 x122000_1 (⟨#[13, 10]⟩ : ByteArray) t129 t130 t131 w _ ?side1 ?side2 A32.out).mono ?_); (case side1 => repeat (first | (with_reducible first | exact HI121.out | apply IsS58.alloc | apply IsS58.drewN | apply IsS58.drew) | exact HI121.out)); (case side2 => repeat (first | (with_reducible first | exact HB.out | apply below_alloc | apply pw_below_drewN | apply below_drew1 | refine below_set ?_ (IsS58.ge HI121.out)) | exact HB.out)); rintro e w35 ⟨rfl, hi, hb, hk⟩; refine ⟨_, rfl, ?_⟩; have n0_ := Aside0.mk (hb); have n1_ := Aside0.mk (hi); clear HB; clear HI121; have HB := n0_; have HI121 := n1_; clear n0_ n1_; (try clear hb); (try clear hk); (try clear hi); (try simp only [errW_none, errW_some])) | ((with_reducible refine gate_callee (f := 39) rfl ?_); refine goesL_ (some 33) rfl rfl Tryz.func39 zb11 rfl #[.pointer (some ⟨gb121, 0, none⟩)] rfl zb0 ?_; (with_reducible refine (Builder_Len.calls gb121 t131 t132 t133 w _ ?side1 ?side2 A33.out).mono ?_); (case side1 => repeat (first | (with_reducible first | exact HI121.out | apply IsS58.alloc | apply IsS58.drewN | apply IsS58.drew) | exact HI121.out)); (case side2 => repeat (first | (with_reducible first | exact HB.out | apply below_alloc | apply pw_below_drewN | apply below_drew1 | refine below_set ?_ (IsS58.ge HI121.out)) | exact HB.out)); rintro e w36 ⟨rfl, hi, hb, hk⟩; refine ⟨_, rfl, ?_⟩; have n0_ := Aside0.mk (hb); have n1_ := Aside0.mk (hi); clear HB; clear HI121; have HB := n0_; have HI121 := n1_; clear n0_ n1_; (try clear hb); (try clear hk); (try clear hi)))
     go_ret2
     exact ⟨zb9, zb19⟩
    ·rw [if_neg c34] at H
     have c34b0 : decide (8000 < t132) = false := decide_eq_false c34
     clear c34
     replace H := Option.bind_eq_some_iff.mp H
     obtain ⟨⟨t134, t135⟩, A370, H⟩ := H
     replace H : (some (t134, 0)) = some (r1, r2) := H
     have A37 := Aside0.mk A370
     clear A370
     simp only [Option.some.injEq, Prod.mk.injEq] at H
     obtain ⟨rfl, rfl⟩ := H
     go_wp2_with (first | ((with_reducible refine gate_callee (f := 38) rfl ?_); refine goesL_ (some 32) rfl rfl Tryz.func38 zb11 rfl #[.pointer (some ⟨gb121, 0, none⟩), .string (⟨#[13, 10]⟩ : ByteArray)] rfl zb0 ?_; (with_reducible refine (Builder_WriteString.calls gb121 x122000_1 (⟨#[13, 10]⟩ : ByteArray) t129 t130 t131 w _ ?side1 ?side2 A32.out).mono ?_); (case side1 => repeat (first | (with_reducible first | exact HI121.out | apply IsS58.alloc | apply IsS58.drewN | apply IsS58.drew) | exact HI121.out)); (case side2 => repeat (first | (with_reducible first | exact HB.out | apply below_alloc | apply pw_below_drewN | apply below_drew1 | refine below_set ?_ (IsS58.ge HI121.out)) | exact HB.out)); rintro e w38 ⟨rfl, hi, hb, hk⟩; refine ⟨_, rfl, ?_⟩; have n0_ := Aside0.mk (hb); have n1_ := Aside0.mk (hi); clear HB; clear HI121; have HB := n0_; have HI121 := n1_; clear n0_ n1_; (try clear hb); (try clear hk); (try clear hi); (try simp only [errW_none, errW_some])) | ((with_reducible refine gate_callee (f := 39) rfl ?_); refine goesL_ (some 33) rfl rfl Tryz.func39 zb11 rfl #[.pointer (some ⟨gb121, 0, none⟩)] rfl zb0 ?_; (with_reducible refine (Builder_Len.calls gb121 t131 t132 t133 w _ ?side1 ?side2 A33.out).mono ?_); (case side1 => repeat (first | (with_reducible first | exact HI121.out | apply IsS58.alloc | apply IsS58.drewN | apply IsS58.drew) | exact HI121.out)); (case side2 => repeat (first | (with_reducible first | exact HB.out | apply below_alloc | apply pw_below_drewN | apply below_drew1 | refine below_set ?_ (IsS58.ge HI121.out)) | exact HB.out)); rintro e w39 ⟨rfl, hi, hb, hk⟩; refine ⟨_, rfl, ?_⟩; have n0_ := Aside0.mk (hb); have n1_ := Aside0.mk (hi); clear HB; clear HI121; have HB := n0_; have HI121 := n1_; clear n0_ n1_; (try clear hb); (try clear hk); (try clear hi)) | ((with_reducible refine gate_callee (f := 40) rfl ?_); refine goesL_ (some 35) rfl rfl Tryz.func40 zb11 rfl #[.pointer (some ⟨gb121, 0, none⟩)] rfl zb0 ?_; (with_reducible refine (Builder_String.calls gb121 t133 t134 t135 w _ ?side1 ?side2 A37.out).mono ?_); (case side1 => repeat (first | (with_reducible first | exact HI121.out | apply IsS58.alloc | apply IsS58.drewN | apply IsS58.drew) | exact HI121.out)); (case side2 => repeat (first | (with_reducible first | exact HB.out | apply below_alloc | apply pw_below_drewN | apply below_drew1 | refine below_set ?_ (IsS58.ge HI121.out)) | exact HB.out)); rintro e w40 ⟨rfl, hi, hb, hk⟩; refine ⟨_, rfl, ?_⟩; have n0_ := Aside0.mk (hb); have n1_ := Aside0.mk (hi); clear HB; clear HI121; have HB := n0_; have HI121 := n1_; clear n0_ n1_; (try clear hb); (try clear hk); (try clear hi)))
     go_ret2
     exact ⟨zb9, zb19⟩
end Go.Proofs.YtaopopnlnohnpaaGreatDoor.P
/- Oclp -/
namespace Go.Proofs.YtaopopnlnohnpaaGreatDoor.O
open Go.RowKit Go.Proofs.YtaopopnlnohnpaaGreatDoorW.PrintWords Go.Proofs.YtaopopnlnohnpaaGreatDoorW.PrintLast Go.Proofs.YtaopopnlnohnpaaGreatDoorW.PrintMore Go.Proofs.YtaopopnlnohnpaaGreatDoor.P
set_option linter.unusedVariables false
set_option linter.unusedSimpArgs false
theorem slices_Clip.calls (A : Option Addr) (n c : Nat) (w : World) (hn : n ≤ c) (hm : n ≤ 9223372036854775807) (h0 : A = none → n = 0) :
    Calls Tryz.prog 19 #[.slice A n c] w fun e w' => e = .returned (.slice A n n) ∧ Drawn0 w w' := by
  go_enter Tryz.func19, Tryz.ntmps19
  cases A with
  | none =>
    obtain rfl := h0 rfl
    go_wp2
    go_ret
    exact ⟨rfl, ⟨0, rfl⟩⟩
  | some ad =>
    have h1 : ((n : Int) ≤ (c : Int)) = True := eq_true zb34
    have h2 : ((0 : Int) ≤ (n : Int)) = True := eq_true zb34
    go_wp2
    go_ret
    exact ⟨rfl, ⟨0, rfl⟩⟩
def flatP (xs : List S41) : List Value := xs.flatMap fun p => [.string p.f0, .string p.f1]
theorem flatP_len (xs : List S41) : (flatP xs).length = xs.length * 2 := by
  induction xs with
  | nil => rfl
  | cons p r ih =>
    show (([.string p.f0, .string p.f1] : List Value) ++ flatP r).length = _
    rw [List.length_append, ih, List.length_cons]
    simp only [List.length_cons, List.length_nil]
    omega
theorem flatP_snoc (xs : List S41) (p : S41) : flatP (xs ++ [p]) = flatP xs ++ [.string p.f0, .string p.f1] := by simp [flatP]
theorem flatP_at : ∀ (xs : List S41) (j i : Nat) (p : S41) (u : Value), xs[j]? = some p → ([.string p.f0, .string p.f1] : List Value)[i]? = some u → (flatP xs)[j * 2 + i]? = some u
  | [], j, i, p, u, h, _ => by simp at h
  | q :: r, 0, i, p, u, h, hu => by
    obtain rfl : q = p := by simpa using h
    show (([.string q.f0, .string q.f1] : List Value) ++ flatP r)[0 * 2 + i]? = _
    have hi := (List.getElem?_eq_some_iff.1 hu).1
    rw [List.getElem?_append_left (by simpa using hi)]
    simpa using hu
  | q :: r, j + 1, i, p, u, h, hu => by
    show (([.string q.f0, .string q.f1] : List Value) ++ flatP r)[(j + 1) * 2 + i]? = _
    rw [List.getElem?_append_right (by simp; omega)]
    have := flatP_at r j i p u (by simpa using h) hu
    rw [← this]
    congr 1
    simp
    omega
theorem flatP_of : ∀ (xs : List S41) (m : Nat) (u : Value), (flatP xs)[m]? = some u → ∃ j i p, m = j * 2 + i ∧ xs[j]? = some p ∧ ([.string p.f0, .string p.f1] : List Value)[i]? = some u
  | [], m, u, h => by simp [flatP] at h
  | q :: r, m, u, h => by
    have h' : (([.string q.f0, .string q.f1] : List Value) ++ flatP r)[m]? = some u := h
    by_cases hm : m < 2
    · rw [List.getElem?_append_left (by simpa using hm)] at h'
      exact ⟨0, m, q, by omega, rfl, h'⟩
    · rw [List.getElem?_append_right (by simp; omega)] at h'
      obtain ⟨j, i, p, e, h1, h2⟩ := flatP_of r (m - 2) u (by simpa using h')
      exact ⟨j + 1, i, p, by omega, by simpa using h1, h2⟩
theorem k_cells {w : World} {x : S41} {c : List Value} (h : k41.K w x c) : c = [.string x.f0, .string x.f1] := by
  obtain ⟨a, b, h1, h2, h3⟩ := h
  have e1 : a = [.string x.f0] := h2
  have e2 : b = [.string x.f1] := h3
  rw [h1, e1, e2]
  rfl
theorem olds_at {w : World} {ad : Addr} {xs : List S41} (h : Kd.C k41 w (some ad) xs.length xs) : ∀ j u, (flatP xs)[j]? = some u → w.cell? (ad.add j) = some u := by
  intro m u hu
  obtain ⟨j, i, p, rfl, h1, h2⟩ := flatP_of xs m u hu
  have hpos : 0 < xs.length := by have := (List.getElem?_eq_some_iff.1 h1).1; omega
  obtain ⟨ad', e, hc⟩ := h.2.2 hpos
  obtain rfl := Option.some.inj e
  obtain ⟨c, hl, hk, hcell⟩ := hc j p h1
  rw [k_cells hk] at hcell
  exact hcell i u h2
theorem row_of_block {w : World} {xs : List S41} {zs : Array Value} {b : Nat} {e : TypeId} {fr : Nat × Nat} (h : w.heap[b]? = some (.cells ((flatP xs).toArray ++ zs) e fr)) (hm : xs.length ≤ 9223372036854775807) : Kd.C k41 w (some ⟨b, 0, none⟩) xs.length xs := by
  refine ⟨rfl, hm, fun _ => ⟨_, rfl, fun j p hp => ⟨[.string p.f0, .string p.f1], rfl, k41_mk _ _, fun i u hu => ?_⟩⟩⟩
  have h1 := flatP_at xs j i p u hp hu
  refine World.news_of_block h _ _ ?_
  change ((flatP xs).toArray ++ zs).toList[j * 2 + i]? = some u
  have h2 := (List.getElem?_eq_some_iff.1 h1).1
  rw [Array.toList_append, List.getElem?_append_left (by simpa using h2)]
  exact h1
theorem clip_append {ops : Array Oper} {rest : List Oper} {o : Oper} {a : Act} {Q : Exit → Act → World → Prop} {w0 W : World} (base : Nat) (hgd : o.guard = none) (s x : Operand)
    (ho : o.op = .call { callee := .builtin .append, args := #[s, x], argTypes := #[22, 22] })
    (A : Option Addr) (xs : List S41) (p : S41) (hs : a.eval s = .slice A xs.length xs.length) (hx : a.eval x = .slice (some ⟨W.heap.size, 0, none⟩) 1 1)
    (HC : Kd.C k41 W A xs.length xs) (hA : A = none → xs = []) (HB : Below base w0 W) (hbase : base ≤ W.heap.size) (hl : xs.length < 4398046511104)
    (h : ∀ A1 c1 w1, Kd.C k41 w1 A1 (xs ++ [p]).length (xs ++ [p]) → (xs ++ [p]).length ≤ c1 → Below base w0 w1 → Below W.heap.size W w1 → wpList Tryz.prog ops Q rest (a.put o.dst (.slice A1 (xs ++ [p]).length c1)) w1) :
    wpList Tryz.prog ops Q (o :: rest) a (W.alloc (.cells #[.string p.f0, .string p.f1] 41)) := by
  obtain ⟨i0, hi, hzz⟩ := Option.map_eq_some_iff.1 info41
  simp only [Prod.mk.injEq] at hzz
  obtain ⟨hz0, hz1, hz2⟩ := hzz
  obtain ⟨V, hV⟩ : ∃ V, V = W.alloc (.cells #[.string p.f0, .string p.f1] 41) := ⟨_, rfl⟩
  have hVs : V.heap.size = W.heap.size + 1 := by rw [hV]; simp
  have hbV : Below W.heap.size W V := by rw [hV]; exact below_alloc (Below.refl _ _) _
  have hnews : ∀ j v, ([.string p.f0, .string p.f1] : List Value)[j]? = some v → V.cell? ((⟨W.heap.size, 0, none⟩ : Addr).add j) = some v := by
    rw [hV]
    exact World.news_of_block (cs := #[.string p.f0, .string p.f1]) (t := 41) (fr := (0, 0)) (heap_alloc_new W (.cells #[.string p.f0, .string p.f1] 41))
  have hCV : Kd.C k41 V A xs.length xs := by rw [hV]; exact Kd.C_alloc HC _
  rw [← hV]
  have key : ∃ c1 zs, xs.length + 1 ≤ c1 ∧ (Builtin.append_ #[22, 22] o.type #[.slice A xs.length xs.length, .slice (some ⟨W.heap.size, 0, none⟩) 1 1]).run Tryz.prog V = .ok (.slice (some ⟨V.heap.size, 0, none⟩) (xs.length + 1) c1) (V.drew.alloc (.cells ((flatP (xs ++ [p])).toArray ++ zs) 41)) := by
    cases A with
    | none =>
      obtain rfl := hA rfl
      refine ⟨_, _, ?_, (run_append_nil V 22 o.type 41 i0 _ Tryz.underlying22 hi hz0 ⟨W.heap.size, 0, none⟩ 1 1 [.string p.f0, .string p.f1] (by rw [hz1]; rfl) hnews zb34 zb34 (by rw [hz2]; decide)).trans (by simp [flatP]; exact ⟨rfl, rfl⟩)⟩
      exact grownCap_ge _ _ _ _
    | some ad =>
      refine ⟨_, _, ?_, (run_append_grow V 22 o.type 41 i0 _ Tryz.underlying22 hi hz0 ad xs.length xs.length (flatP xs) (by rw [hz1, flatP_len]) (olds_at hCV) ⟨W.heap.size, 0, none⟩ 1 1 [.string p.f0, .string p.f1] (by rw [hz1]; rfl) hnews zb34 zb34 (growslice_fits_succ (by rw [hz2]; omega) (by rw [hz2]; decide))).trans (by rw [flatP_snoc]; simp; exact ⟨rfl, rfl⟩)⟩
      exact grownCap_ge _ _ _ _
  obtain ⟨c1, zs, hc1, hrun⟩ := key
  refine wpList_plain hgd fun K hK => ?_
  unfold Oper.wp execOp
  simp only [ho, resolve, invoke, builtin, Sem.run_bind, Sem.run_pure, Result.andThen_ok, List.map_toArray, List.map_cons, List.map_nil, hs, hx, hrun]
  have hlen : (xs ++ [p]).length = xs.length + 1 := by simp
  have hb2 : Below W.heap.size W (V.drew.alloc (.cells ((flatP (xs ++ [p])).toArray ++ zs) 41)) := below_alloc (below_drew1 hbV) _
  have := h (some ⟨V.heap.size, 0, none⟩) c1 (V.drew.alloc (.cells ((flatP (xs ++ [p])).toArray ++ zs) 41)) (row_of_block (heap_alloc_new _ _) zb34) zb34 ((HB.trans (hb2.mono hbase))) hb2
  rw [hlen] at this
  exact hK _ _ this
end Go.Proofs.YtaopopnlnohnpaaGreatDoor.O
/- Orpr -/
namespace Go.Proofs.YtaopopnlnohnpaaGreatDoor.P
open Go.Proofs.YtaopopnlnohnpaaGreatDoor.B
open Go.RowKit Go.Proofs.YtaopopnlnohnpaaGreatDoorW.PrintWords Go.Proofs.YtaopopnlnohnpaaGreatDoorW.PrintLast Go.Proofs.YtaopopnlnohnpaaGreatDoorW.PrintMore
attribute [local go_sem] str_leq str_gtr str_geq max2_int min2_int max_two min_two max_three min_three max_four min_four
set_option linter.unusedVariables false
set_option linter.unusedSimpArgs false
open Go.Proofs.YtaopopnlnohnpaaGreatDoor.O
/-- A row at a slice, its length told. -/
def RowAt (W : World) (v : Value) (l : List (S41)) : Prop := ∃ A c, v = .slice A l.length c ∧ Kd.C k41 W A l.length l ∧ l.length ≤ c
def slices_Clip.f (l : List (S41)) : Option (List (S41)) := some l
mutual
def response_Print.j0 : Nat → Bool → Int → List (S41) → ByteArray → Option (ByteArray × Int)
  | 0, _, _, _, _ => none
  | k + 1, x7, x139000, x139001, x139002 => if x7 = true then (some ((⟨#[]⟩ : ByteArray), 1)) else (if (x139002.size : Int) > 100000 then (some ((⟨#[]⟩ : ByteArray), 2)) else ((response_lengths.f k x139001).bind fun t141 => (if t141 > 0 then (some ((⟨#[]⟩ : ByteArray), 180)) else ((slices_Clip.f x139001).bind fun t142 => ((response_bare.f x139000).bind fun t145 => (if t145 = true then (response_Print.j1 k t142 x139000 x139001 x139002) else ((strconv_Itoa.f (x139002.size : Int)).bind fun t146 => (if t142.length < 4398046511104 then (response_Print.j1 k (t142 ++ [(⟨(⟨#[67, 111, 110, 116, 101, 110, 116, 45, 76, 101, 110, 103, 116, 104]⟩ : ByteArray), t146⟩ : S41)]) x139000 x139001 x139002) else (none)))))))))
def response_Print.j1 : Nat → List (S41) → Int → List (S41) → ByteArray → Option (ByteArray × Int)
  | 0, _, _, _, _ => none
  | k + 1, x4, x139000, x139001, x139002 => (field_Print.f k x4).bind fun bt150 => (if bt150.2 = 0 then ((response_first.f x139000).bind fun t152 => (if t152.size + 2 ≤ 9223372036854775807 then (if (t152 ++ (⟨#[13, 10]⟩ : ByteArray)).size + bt150.1.size ≤ 9223372036854775807 then (if ((t152 ++ (⟨#[13, 10]⟩ : ByteArray)) ++ bt150.1).size + x139002.size ≤ 9223372036854775807 then (some (((t152 ++ (⟨#[13, 10]⟩ : ByteArray)) ++ bt150.1) ++ x139002, 0)) else (none)) else (none)) else (none))) else (some ((⟨#[]⟩ : ByteArray), bt150.2)))
end
def response_Print.f (k : Nat) (a0_0 : Int) (l0_1 : List (S41)) (a0_2 : ByteArray) : Option (ByteArray × Int) := (response_Reason.f a0_0).bind fun t139 => (if t139.toList = ([] : List UInt8) then (response_Print.j0 k (t139.toList == ([] : List UInt8)) a0_0 l0_1 a0_2) else ((response_bare.f a0_0).bind fun t140 => (if t140 = true then (response_Print.j0 k (a0_2.toList != ([] : List UInt8)) a0_0 l0_1 a0_2) else (response_Print.j0 k false a0_0 l0_1 a0_2))))
def response_Print.T14 : Bool × List (List Nat × List Nat) := (true, [([], []), ([0], [0]), ([1], [1]), ([2], [2]), ([], []), ([3, 4], [3, 4]), ([], []), ([6], [6]), ([5, 7], [5, 7]), ([8, 2, 0, 1, 2, 3, 4, 5, 6, 7, 8], [8]), ([9, 0, 1, 2, 3, 4, 5, 6, 7, 8, 9], [])])
def response_Print.B14 : List Nat := [0, 1, 3, 7, 0, 31, 0, 64, 255, 511, 1023]
theorem response_Print.tab14 : rtab .any (opsOf Tryz.f9 14) = response_Print.T14 := by kernel_rfl
theorem response_Print.bits14 : waitsOk response_Print.T14.2 response_Print.B14 = true := by kernel_rfl
set_option maxHeartbeats 8000000 in
set_option maxRecDepth 100000 in
theorem response_Print.calls (k : Nat) (a0_0 : Int) (A0_1 : Option Addr) (c0_1 : Nat) (l0_1 : List (S41)) (a0_2 : ByteArray) (r1 : ByteArray) (r2 : Int) (w : World) (hr0_1 : Kd.C k41 w A0_1 l0_1.length l0_1) (hc0_1 : l0_1.length ≤ c0_1) (hG : Glob w) (h : response_Print.f k a0_0 l0_1 a0_2 = some (r1, r2)) :
    Calls Tryz.prog 9 #[.agg #[.int .i64 a0_0, .slice A0_1 l0_1.length c0_1, .string a0_2]] w fun e w' => e = .returned (.tuple #[.string r1, .int .i64 r2]) ∧ Below w.heap.size w w' := by
  have hu24 := Tryz.underlying24
  have hu41 := Tryz.underlying41
  have HR0_1 := Aside0.mk hr0_1
  have HC0_1 := Aside0.mk hc0_1
  clear hr0_1 hc0_1
  have HB := Aside0.mk (Below.refl w.heap.size w)
  have hGA := Aside0.mk hG
  clear hG
  have H : ((response_Reason.f a0_0).bind fun t139 => (if t139.toList = ([] : List UInt8) then (response_Print.j0 k (t139.toList == ([] : List UInt8)) a0_0 l0_1 a0_2) else ((response_bare.f a0_0).bind fun t140 => (if t140 = true then (response_Print.j0 k (a0_2.toList != ([] : List UInt8)) a0_0 l0_1 a0_2) else (response_Print.j0 k false a0_0 l0_1 a0_2))))) = some (r1, r2) := h
  clear h
  replace H := Option.bind_eq_some_iff.mp H
  obtain ⟨t139, A20, H⟩ := H
  replace H : (if t139.toList = ([] : List UInt8) then (response_Print.j0 k (t139.toList == ([] : List UInt8)) a0_0 l0_1 a0_2) else ((response_bare.f a0_0).bind fun t140 => (if t140 = true then (response_Print.j0 k (a0_2.toList != ([] : List UInt8)) a0_0 l0_1 a0_2) else (response_Print.j0 k false a0_0 l0_1 a0_2)))) = some (r1, r2) := H
  have A2 := Aside0.mk A20
  clear A20
  have HC3 := Aside0.mk H
  clear H
  go_enter Tryz.func9, Tryz.ntmps9
  go_upto_if 7 with (first | ((with_reducible refine gate_dst (N := 1) rfl ?_); refine box_event ?hg (N := 1) ?hd (cs := #[.int .i64 a0_0, .slice A0_1 l0_1.length c0_1, .string a0_2]) (t := 24) ?hr ?_; (case hd => rfl); (case hg => rfl); (case hr => first | (go_simp; done) | (go_simp; rfl)); intro gb138 hg w4 hbox hb; have n0_ := Aside0.mk (below_step zb1 hb); have n1_ := Aside0.mk (hbox); have n2_ := Aside0.mk ((by rw [hg]; exact (below_size zb1) : w.heap.size ≤ gb138)); have n3_ := Aside0.mk ((by rw [hg]; exact (below_size zb1) : w.heap.size ≤ gb138)); clear HB; have HB := n0_; have BK138 := n1_; have GW138 := n2_; have GE138 := n3_; clear n0_ n1_ n2_ n3_; clear hb hbox hg; have hcz5_0 : w4.cell? ⟨gb138, 0, none⟩ = some (.int .i64 a0_0) := (blk_cell BK138.out 0).trans rfl; have hcz5_1 : w4.cell? ⟨gb138, 1, none⟩ = some (.slice A0_1 l0_1.length c0_1) := (blk_cell BK138.out 1).trans rfl; have hcz5_2 : w4.cell? ⟨gb138, 2, none⟩ = some (.string a0_2) := (blk_cell BK138.out 2).trans rfl; have hfz5_0 := blk_frozen BK138.out 0; have hfz5_1 := blk_frozen BK138.out 1; have hfz5_2 := blk_frozen BK138.out 2) | ((with_reducible refine gate_callee (f := 11) rfl ?_); refine goesL_ (some 10) rfl rfl Tryz.func11 zb11 rfl #[.int .i64 a0_0] rfl zb0 ?_; (with_reducible refine (response_Reason.calls a0_0 t139 _ A2.out).mono ?_); rintro e w6 ⟨rfl, hb⟩; refine ⟨_, rfl, ?_⟩; have n0_ := Aside0.mk (blk_below (g := gb138) (o := .cells #[.int .i64 a0_0, .slice A0_1 l0_1.length c0_1, .string a0_2] 24 (0, 0)) zb32 hb); have n1_ := Aside0.mk (below_step zb14 hb); clear BK138; clear HB; have BK138 := n0_; have HB := n1_; clear n0_ n1_; (try clear hb); (try clear hb2); (try clear hk); (try clear hi)))
  (try simp only [Act.put, List.setIfInBounds_toArray, List.set_cons_zero, List.set_cons_succ])
  go_cut [7] (fun v7 wc => ∃ (kq : Nat) (x7_2 : Bool), v7 = .bool x7_2 ∧ Aside0 (response_Print.j0 kq x7_2 a0_0 l0_1 a0_2 = some (r1, r2)) ∧ Aside0 (kq ≤ k) ∧ Aside0 (wc.heap[gb138]? = some (.cells #[.int .i64 a0_0, (.slice A0_1 l0_1.length c0_1), .string a0_2] 24 (0, 0))) ∧ Aside0 (Below w.heap.size w wc))
  case first =>
    have H := HC3.out
    clear HC3
    by_cases c7 : t139.toList = ([] : List UInt8)
    · rw [if_pos c7] at H
      have c7b0 : (t139.toList == ([] : List UInt8)) = true := beq_iff_eq.mpr c7
      have c7b1 : (t139.toList != ([] : List UInt8)) = false := bne_eq_false_iff_eq.mpr c7
      have c7i : t139.toList.isEmpty = true := by simpa using c7
      try rw [c7i]
      clear c7
      (first | rw [c7b0] | (simp only [i64_w, i32_w]; rw [c7b0]) | skip)
      have H' := Aside0.mk H
      clear H
      go_wp2
      go_meet
      case rel => exact ⟨_, ((t139.toList == ([] : List UInt8))), zb12, H', ⟨by first | omega | exact Nat.le_refl _⟩, ⟨by (with_reducible repeat (first | refine blk_drewN ?_ _ | refine blk_drew ?_ | refine blk_alloc ?_ _)); exact BK138.out⟩, ⟨by repeat (first | (with_reducible first | exact HB.out | apply below_alloc | apply pw_below_drewN | apply below_drew1 | refine below_set ?_ GE138.out) | exact HB.out)⟩⟩
    · rw [if_neg c7] at H
      have c7b0 : (t139.toList == ([] : List UInt8)) = false := beq_eq_false_iff_ne.mpr c7
      have c7b1 : (t139.toList != ([] : List UInt8)) = true := bne_iff_ne.mpr c7
      have c7i : t139.toList.isEmpty = false := by simpa using c7
      try rw [c7i]
      (first | rw [c7b0] | (simp only [i64_w, i32_w]; rw [c7b0]) | skip)
      replace H := Option.bind_eq_some_iff.mp H
      obtain ⟨t140, A80, H⟩ := H
      replace H : (if t140 = true then (response_Print.j0 k (a0_2.toList != ([] : List UInt8)) a0_0 l0_1 a0_2) else (response_Print.j0 k false a0_0 l0_1 a0_2)) = some (r1, r2) := H
      have A8 := Aside0.mk A80
      clear A80
      by_cases c9 : t140 = true
      · subst c9
        replace H : (response_Print.j0 k (a0_2.toList != ([] : List UInt8)) a0_0 l0_1 a0_2) = some (r1, r2) := by rw [if_pos rfl] at H; exact H
        have H' := Aside0.mk H
        clear H
        have hcz10_0 : w6.cell? ⟨gb138, 0, none⟩ = some (.int .i64 a0_0) := (blk_cell BK138.out 0).trans rfl
        have hcz10_1 : w6.cell? ⟨gb138, 1, none⟩ = some (.slice A0_1 l0_1.length c0_1) := (blk_cell BK138.out 1).trans rfl
        have hcz10_2 : w6.cell? ⟨gb138, 2, none⟩ = some (.string a0_2) := (blk_cell BK138.out 2).trans rfl
        have hfz10_0 := blk_frozen BK138.out 0
        have hfz10_1 := blk_frozen BK138.out 1
        have hfz10_2 := blk_frozen BK138.out 2
        go_wp2_with (first | ((with_reducible refine gate_callee (f := 17) rfl ?_); refine goesL_ (some 14) rfl rfl Tryz.func17 zb11 rfl #[.int .i64 a0_0] rfl zb0 ?_; (with_reducible refine (response_bare.calls a0_0 true _ A8.out).mono ?_); rintro e w' ⟨rfl, ⟨nd, rfl⟩⟩; refine ⟨_, rfl, ?_⟩))
        go_meet
        case rel => exact ⟨_, ((a0_2.toList != ([] : List UInt8))), (by first | (cases a0_2.toList <;> rfl) | rfl | (simp; done) | (simp [*]; done)), H', ⟨by first | omega | exact Nat.le_refl _⟩, ⟨by (with_reducible repeat (first | refine blk_drewN ?_ _ | refine blk_drew ?_ | refine blk_alloc ?_ _)); exact BK138.out⟩, ⟨by repeat (first | (with_reducible first | exact HB.out | apply below_alloc | apply pw_below_drewN | apply below_drew1 | refine below_set ?_ GE138.out) | exact HB.out)⟩⟩
      · replace c9 := Bool.eq_false_iff.mpr c9
        subst c9
        replace H : (response_Print.j0 k false a0_0 l0_1 a0_2) = some (r1, r2) := by rw [if_neg (show ¬ (false = true) by decide)] at H; exact H
        have H' := Aside0.mk H
        clear H
        have hcz11_0 : w6.cell? ⟨gb138, 0, none⟩ = some (.int .i64 a0_0) := (blk_cell BK138.out 0).trans rfl
        have hcz11_1 : w6.cell? ⟨gb138, 1, none⟩ = some (.slice A0_1 l0_1.length c0_1) := (blk_cell BK138.out 1).trans rfl
        have hcz11_2 : w6.cell? ⟨gb138, 2, none⟩ = some (.string a0_2) := (blk_cell BK138.out 2).trans rfl
        have hfz11_0 := blk_frozen BK138.out 0
        have hfz11_1 := blk_frozen BK138.out 1
        have hfz11_2 := blk_frozen BK138.out 2
        go_wp2_with (first | ((with_reducible refine gate_callee (f := 17) rfl ?_); refine goesL_ (some 14) rfl rfl Tryz.func17 zb11 rfl #[.int .i64 a0_0] rfl zb0 ?_; (with_reducible refine (response_bare.calls a0_0 false _ A8.out).mono ?_); rintro e w' ⟨rfl, ⟨nd, rfl⟩⟩; refine ⟨_, rfl, ?_⟩))
        go_meet
        case rel => exact ⟨_, (false), zb12, H', ⟨by first | omega | exact Nat.le_refl _⟩, ⟨by (with_reducible repeat (first | refine blk_drewN ?_ _ | refine blk_drew ?_ | refine blk_alloc ?_ _)); exact BK138.out⟩, ⟨by repeat (first | (with_reducible first | exact HB.out | apply below_alloc | apply pw_below_drewN | apply below_drew1 | refine below_set ?_ GE138.out) | exact HB.out)⟩⟩
  case rest =>
    clear HC3
    try clear c1
    try clear p2
    try clear c7
    try clear c7b0
    try clear c7b1
    try clear c9
    try clear c11
    try clear hcz10_0
    try clear hcz10_1
    try clear hcz10_2
    try clear hcz11_0
    try clear hcz11_1
    try clear hcz11_2
    try clear hcz5_0
    try clear hcz5_1
    try clear hcz5_2
    try clear hfz10_0
    try clear hfz10_1
    try clear hfz10_2
    try clear hfz11_0
    try clear hfz11_1
    try clear hfz11_2
    try clear hfz5_0
    try clear hfz5_1
    try clear hfz5_2
    obtain ⟨kq, x7_2, rfl, HA, HJ2, BK138, HB⟩ := hcut
    cases kq with
    | zero => exact absurd HA.out (by simp [response_Print.j0])
    | succ kj2 =>
      have H := HA.out
      clear HA
      simp only [response_Print.j0] at H
      by_cases c12 : x7_2 = true
      · subst c12
        replace H : (some ((⟨#[]⟩ : ByteArray), 1)) = some (r1, r2) := by rw [if_pos rfl] at H; exact H
        simp only [Option.some.injEq, Prod.mk.injEq] at H
        obtain ⟨rfl, rfl⟩ := H
        go_wp2
        go_ret2
        exact ⟨zb9, zb14⟩
      · replace c12 := Bool.eq_false_iff.mpr c12
        subst c12
        replace H : (if (a0_2.size : Int) > 100000 then (some ((⟨#[]⟩ : ByteArray), 2)) else ((response_lengths.f kj2 l0_1).bind fun t141 => (if t141 > 0 then (some ((⟨#[]⟩ : ByteArray), 180)) else ((slices_Clip.f l0_1).bind fun t142 => ((response_bare.f a0_0).bind fun t145 => (if t145 = true then (response_Print.j1 kj2 t142 a0_0 l0_1 a0_2) else ((strconv_Itoa.f (a0_2.size : Int)).bind fun t146 => (if t142.length < 4398046511104 then (response_Print.j1 kj2 (t142 ++ [(⟨(⟨#[67, 111, 110, 116, 101, 110, 116, 45, 76, 101, 110, 103, 116, 104]⟩ : ByteArray), t146⟩ : S41)]) a0_0 l0_1 a0_2) else (none))))))))) = some (r1, r2) := by rw [if_neg (show ¬ (false = true) by decide)] at H; exact H
        by_cases c13 : (a0_2.size : Int) > 100000
        · rw [if_pos c13] at H
          have c13b0 : decide (100000 < (a0_2.size : Int)) = true := decide_eq_true c13
          have c13b1 : decide (100000 < a0_2.size) = true := decide_eq_true zb34
          clear c13
          simp only [Option.some.injEq, Prod.mk.injEq] at H
          obtain ⟨rfl, rfl⟩ := H
          have hcz14_0 : wc.cell? ⟨gb138, 0, none⟩ = some (.int .i64 a0_0) := (blk_cell BK138.out 0).trans rfl
          have hcz14_1 : wc.cell? ⟨gb138, 1, none⟩ = some (.slice A0_1 l0_1.length c0_1) := (blk_cell BK138.out 1).trans rfl
          have hcz14_2 : wc.cell? ⟨gb138, 2, none⟩ = some (.string a0_2) := (blk_cell BK138.out 2).trans rfl
          have hfz14_0 := blk_frozen BK138.out 0
          have hfz14_1 := blk_frozen BK138.out 1
          have hfz14_2 := blk_frozen BK138.out 2
          go_wp2
          go_ret2
          exact ⟨zb9, zb14⟩
        · rw [if_neg c13] at H
          have c13b0 : decide (100000 < (a0_2.size : Int)) = false := decide_eq_false c13
          have c13b1 : decide (100000 < a0_2.size) = false := decide_eq_false zb34
          clear c13
          replace H := Option.bind_eq_some_iff.mp H
          obtain ⟨t141, A150, H⟩ := H
          replace H : (if t141 > 0 then (some ((⟨#[]⟩ : ByteArray), 180)) else ((slices_Clip.f l0_1).bind fun t142 => ((response_bare.f a0_0).bind fun t145 => (if t145 = true then (response_Print.j1 kj2 t142 a0_0 l0_1 a0_2) else ((strconv_Itoa.f (a0_2.size : Int)).bind fun t146 => (if t142.length < 4398046511104 then (response_Print.j1 kj2 (t142 ++ [(⟨(⟨#[67, 111, 110, 116, 101, 110, 116, 45, 76, 101, 110, 103, 116, 104]⟩ : ByteArray), t146⟩ : S41)]) a0_0 l0_1 a0_2) else (none))))))) = some (r1, r2) := H
          have A15 := Aside0.mk A150
          clear A150
          by_cases c16 : t141 > 0
          · rw [if_pos c16] at H
            have c16b0 : decide (0 < t141) = true := decide_eq_true c16
            clear c16
            simp only [Option.some.injEq, Prod.mk.injEq] at H
            obtain ⟨rfl, rfl⟩ := H
            have hcz17_0 : wc.cell? ⟨gb138, 0, none⟩ = some (.int .i64 a0_0) := (blk_cell BK138.out 0).trans rfl
            have hcz17_1 : wc.cell? ⟨gb138, 1, none⟩ = some (.slice A0_1 l0_1.length c0_1) := (blk_cell BK138.out 1).trans rfl
            have hcz17_2 : wc.cell? ⟨gb138, 2, none⟩ = some (.string a0_2) := (blk_cell BK138.out 2).trans rfl
            have hfz17_0 := blk_frozen BK138.out 0
            have hfz17_1 := blk_frozen BK138.out 1
            have hfz17_2 := blk_frozen BK138.out 2
            go_wp2_with (first | ((with_reducible refine gate_callee (f := 18) rfl ?_); refine goesL_ (some 28) rfl rfl Tryz.func18 zb11 rfl #[.slice A0_1 l0_1.length c0_1] rfl zb0 ?_; (with_reducible refine (response_lengths.calls kj2 _ _ l0_1 t141 _ ?side1 ?side2 A15.out).mono ?_); (case side1 => repeat (first | exact (Kd.C_below HR0_1.out HB.out) | (with_reducible refine Kd.C_alloc ?_ _) | (with_reducible refine Kd.C_drewN ?_ _) | (with_reducible refine Kd.C_drew ?_))); (case side2 => exact HC0_1.out); rintro e w18 ⟨rfl, hb⟩; refine ⟨_, rfl, ?_⟩; have n0_ := Aside0.mk (blk_below (g := gb138) (o := .cells #[.int .i64 a0_0, .slice A0_1 l0_1.length c0_1, .string a0_2] 24 (0, 0)) zb32 hb); have n1_ := Aside0.mk (below_step zb14 hb); clear BK138; clear HB; have BK138 := n0_; have HB := n1_; clear n0_ n1_; (try clear hb); (try clear hb2); (try clear hk); (try clear hi)))
            go_ret2
            exact ⟨zb9, zb14⟩
          · rw [if_neg c16] at H
            have c16b0 : decide (0 < t141) = false := decide_eq_false c16
            clear c16
            replace H := Option.bind_eq_some_iff.mp H
            obtain ⟨t142, A190, H⟩ := H
            replace H : ((response_bare.f a0_0).bind fun t145 => (if t145 = true then (response_Print.j1 kj2 t142 a0_0 l0_1 a0_2) else ((strconv_Itoa.f (a0_2.size : Int)).bind fun t146 => (if t142.length < 4398046511104 then (response_Print.j1 kj2 (t142 ++ [(⟨(⟨#[67, 111, 110, 116, 101, 110, 116, 45, 76, 101, 110, 103, 116, 104]⟩ : ByteArray), t146⟩ : S41)]) a0_0 l0_1 a0_2) else (none))))) = some (r1, r2) := H
            obtain rfl : l0_1 = t142 := Option.some.inj A190
            clear A190
            replace H := Option.bind_eq_some_iff.mp H
            obtain ⟨t145, A200, H⟩ := H
            replace H : (if t145 = true then (response_Print.j1 kj2 l0_1 a0_0 l0_1 a0_2) else ((strconv_Itoa.f (a0_2.size : Int)).bind fun t146 => (if l0_1.length < 4398046511104 then (response_Print.j1 kj2 (l0_1 ++ [(⟨(⟨#[67, 111, 110, 116, 101, 110, 116, 45, 76, 101, 110, 103, 116, 104]⟩ : ByteArray), t146⟩ : S41)]) a0_0 l0_1 a0_2) else (none)))) = some (r1, r2) := H
            have A20 := Aside0.mk A200
            clear A200
            have HC21 := Aside0.mk H
            clear H
            have hcz22_0 : wc.cell? ⟨gb138, 0, none⟩ = some (.int .i64 a0_0) := (blk_cell BK138.out 0).trans rfl
            have hcz22_1 : wc.cell? ⟨gb138, 1, none⟩ = some (.slice A0_1 l0_1.length c0_1) := (blk_cell BK138.out 1).trans rfl
            have hcz22_2 : wc.cell? ⟨gb138, 2, none⟩ = some (.string a0_2) := (blk_cell BK138.out 2).trans rfl
            have hfz22_0 := blk_frozen BK138.out 0
            have hfz22_1 := blk_frozen BK138.out 1
            have hfz22_2 := blk_frozen BK138.out 2
            go_upto_if 36 with (first | ((with_reducible refine gate_callee (f := 18) rfl ?_); refine goesL_ (some 28) rfl rfl Tryz.func18 zb11 rfl #[.slice A0_1 l0_1.length c0_1] rfl zb0 ?_; (with_reducible refine (response_lengths.calls kj2 _ _ l0_1 t141 _ ?side1 ?side2 A15.out).mono ?_); (case side1 => repeat (first | exact (Kd.C_below HR0_1.out HB.out) | (with_reducible refine Kd.C_alloc ?_ _) | (with_reducible refine Kd.C_drewN ?_ _) | (with_reducible refine Kd.C_drew ?_))); (case side2 => exact HC0_1.out); rintro e w23 ⟨rfl, hb⟩; refine ⟨_, rfl, ?_⟩; have n0_ := Aside0.mk (blk_below (g := gb138) (o := .cells #[.int .i64 a0_0, .slice A0_1 l0_1.length c0_1, .string a0_2] 24 (0, 0)) zb32 hb); have n1_ := Aside0.mk (below_step zb14 hb); clear BK138; clear HB; have BK138 := n0_; have HB := n1_; clear n0_ n1_; (try clear hb); (try clear hb2); (try clear hk); (try clear hi); have hcz24_0 : w23.cell? ⟨gb138, 0, none⟩ = some (.int .i64 a0_0) := (blk_cell BK138.out 0).trans rfl; have hcz24_1 : w23.cell? ⟨gb138, 1, none⟩ = some (.slice A0_1 l0_1.length c0_1) := (blk_cell BK138.out 1).trans rfl; have hcz24_2 : w23.cell? ⟨gb138, 2, none⟩ = some (.string a0_2) := (blk_cell BK138.out 2).trans rfl; have hfz24_0 := blk_frozen BK138.out 0; have hfz24_1 := blk_frozen BK138.out 1; have hfz24_2 := blk_frozen BK138.out 2) | ((with_reducible refine gate_callee (f := 19) rfl ?_); refine goesL_ (some 32) rfl rfl Tryz.func19 zb11 rfl #[.slice A0_1 l0_1.length c0_1] rfl zb0 ?_; (refine (slices_Clip.calls A0_1 l0_1.length c0_1 _ HC0_1.out HR0_1.out.2.1 (fun e_ => by rcases Nat.eq_zero_or_pos l0_1.length with h_ | h_; exact h_; obtain ⟨_, e2_, _⟩ := HR0_1.out.2.2 h_; rw [e_] at e2_; cases e2_)).mono ?_); rintro e w' ⟨rfl, ⟨nd, rfl⟩⟩; refine ⟨_, rfl, ?_⟩) | ((with_reducible refine gate_callee (f := 17) rfl ?_); refine goesL_ (some 35) rfl rfl Tryz.func17 zb11 rfl #[.int .i64 a0_0] rfl zb0 ?_; (with_reducible refine (response_bare.calls a0_0 t145 _ A20.out).mono ?_); rintro e w' ⟨rfl, ⟨nd, rfl⟩⟩; refine ⟨_, rfl, ?_⟩))
            (try simp only [Act.put, List.setIfInBounds_toArray, List.set_cons_zero, List.set_cons_succ])
            go_cut [4] (fun v4 wc => ∃ (kq : Nat) (x4_20 : List (S41)), Aside0 (response_Print.j1 kq x4_20 a0_0 l0_1 a0_2 = some (r1, r2)) ∧ Aside0 (kq ≤ kj2) ∧ Aside0 (RowAt wc v4 x4_20) ∧ Aside0 (wc.heap[gb138]? = some (.cells #[.int .i64 a0_0, (.slice A0_1 l0_1.length c0_1), .string a0_2] 24 (0, 0))) ∧ Aside0 (Below w.heap.size w wc))
            case first =>
              have H := HC21.out
              clear HC21
              by_cases c27 : t145 = true
              · subst c27
                replace H : (response_Print.j1 kj2 l0_1 a0_0 l0_1 a0_2) = some (r1, r2) := by rw [if_pos rfl] at H; exact H
                have H' := Aside0.mk H
                clear H
                go_wp2
                go_meet
                case rel => exact ⟨_, (l0_1), H', ⟨by have := HJ2.out; first | omega | exact Nat.le_refl _⟩, ⟨⟨_, _, rfl, by repeat (first | exact (Kd.C_below HR0_1.out HB.out) | (with_reducible refine Kd.C_alloc ?_ _) | (with_reducible refine Kd.C_drewN ?_ _) | (with_reducible refine Kd.C_drew ?_)), Nat.le_refl _⟩⟩, ⟨by (with_reducible repeat (first | refine blk_drewN ?_ _ | refine blk_drew ?_ | refine blk_alloc ?_ _)); exact BK138.out⟩, ⟨by repeat (first | (with_reducible first | exact HB.out | apply below_alloc | apply pw_below_drewN | apply below_drew1 | refine below_set ?_ GE138.out) | exact HB.out)⟩⟩
              · replace c27 := Bool.eq_false_iff.mpr c27
                subst c27
                replace H : ((strconv_Itoa.f (a0_2.size : Int)).bind fun t146 => (if l0_1.length < 4398046511104 then (response_Print.j1 kj2 (l0_1 ++ [(⟨(⟨#[67, 111, 110, 116, 101, 110, 116, 45, 76, 101, 110, 103, 116, 104]⟩ : ByteArray), t146⟩ : S41)]) a0_0 l0_1 a0_2) else (none))) = some (r1, r2) := by rw [if_neg (show ¬ (false = true) by decide)] at H; exact H
                replace H := Option.bind_eq_some_iff.mp H
                obtain ⟨t146, A280, H⟩ := H
                replace H : (if l0_1.length < 4398046511104 then (response_Print.j1 kj2 (l0_1 ++ [(⟨(⟨#[67, 111, 110, 116, 101, 110, 116, 45, 76, 101, 110, 103, 116, 104]⟩ : ByteArray), t146⟩ : S41)]) a0_0 l0_1 a0_2) else (none)) = some (r1, r2) := H
                have A28 := Aside0.mk A280
                clear A280
                by_cases c29 : l0_1.length < 4398046511104
                · rw [if_pos c29] at H
                  have LMc29 := Aside0.mk c29
                  clear c29
                  obtain ⟨y147, hy147⟩ : ∃ y_ : List (S41), y_ = (l0_1 ++ [(⟨(⟨#[67, 111, 110, 116, 101, 110, 116, 45, 76, 101, 110, 103, 116, 104]⟩ : ByteArray), t146⟩ : S41)]) := ⟨_, rfl⟩
                  replace H : (response_Print.j1 kj2 y147 a0_0 l0_1 a0_2) = some (r1, r2) := by first | (rw [hy147]; with_reducible exact H) | (have H2_ := (Option.bind_some _ _).symm.trans H; rw [hy147]; with_reducible exact H2_) | (have H2_ := (Option.bind_some _ _).symm.trans H; with_reducible exact H2_) | with_reducible exact H | (rw [hy147]; exact H) | exact H
                  have Ny147 := Aside0.mk hy147
                  clear hy147
                  have H' := Aside0.mk H
                  clear H
                  have hcz30_0 : w23.cell? ⟨gb138, 0, none⟩ = some (.int .i64 a0_0) := (blk_cell BK138.out 0).trans rfl
                  have hcz30_1 : w23.cell? ⟨gb138, 1, none⟩ = some (.slice A0_1 l0_1.length c0_1) := (blk_cell BK138.out 1).trans rfl
                  have hcz30_2 : w23.cell? ⟨gb138, 2, none⟩ = some (.string a0_2) := (blk_cell BK138.out 2).trans rfl
                  have hfz30_0 := blk_frozen BK138.out 0
                  have hfz30_1 := blk_frozen BK138.out 1
                  have hfz30_2 := blk_frozen BK138.out 2
                  go_wp2_with (first | ((with_reducible refine gate_callee (f := 20) rfl ?_); refine goesL_ (some 41) rfl rfl Tryz.func20 zb11 rfl #[.int .i64 (a0_2.size : Int)] rfl zb0 ?_; (with_reducible refine (strconv_Itoa.calls (a0_2.size : Int) t146 _ ?side1 A28.out).mono ?_); (case side1 => exact Glob.below hGA.out zb14); rintro e w31 ⟨rfl, hb⟩; refine ⟨_, rfl, ?_⟩; have n0_ := Aside0.mk True.intro; have n1_ := Aside0.mk (blk_below (g := gb138) (o := .cells #[.int .i64 a0_0, .slice A0_1 l0_1.length c0_1, .string a0_2] 24 (0, 0)) zb32 hb); have n2_ := Aside0.mk (below_step zb14 hb); clear BK138; clear HB; have HO144 := n0_; have BK138 := n1_; have HB := n2_; clear n0_ n1_ n2_; (try clear hb); (try clear hb2); (try clear hk); (try clear hi)) | ((with_reducible refine gate_builtin (b := .append) (xs := #[.tmp 37, .tmp 43]) rfl ?_); at_builtin; refine clip_append (w0 := w) w.heap.size rfl (.tmp 37) (.tmp 43) rfl A0_1 l0_1 (⟨(⟨#[67, 111, 110, 116, 101, 110, 116, 45, 76, 101, 110, 103, 116, 104]⟩ : ByteArray), t146⟩ : S41) rfl rfl ?aC ?aN ?aB ?aS ?aL ?_; (case aC => repeat (first | exact (Kd.C_below HR0_1.out HB.out) | (with_reducible refine Kd.C_alloc ?_ _) | (with_reducible refine Kd.C_drewN ?_ _) | (with_reducible refine Kd.C_drew ?_))); (case aN => exact fun e_ => List.eq_nil_of_length_eq_zero ((fun e_ => by rcases Nat.eq_zero_or_pos l0_1.length with h_ | h_; exact h_; obtain ⟨_, e2_, _⟩ := HR0_1.out.2.2 h_; rw [e_] at e2_; cases e2_) e_)); (case aB => exact zb14); (case aS => exact (below_size zb14)); (case aL => have := LMc29.out; omega); intro A1_ c1_ w32 hC_ hL_ hb hb2; rw [← Ny147.out] at hC_ hL_ ⊢; have n0_ := Aside0.mk (blk_below (g := gb138) (o := .cells #[.int .i64 a0_0, .slice A0_1 l0_1.length c0_1, .string a0_2] 24 (0, 0)) zb32 hb2); have n1_ := Aside0.mk hb; have HCr := Aside0.mk hC_; have HLr := Aside0.mk hL_; clear BK138; clear HB; have BK138 := n0_; have HB := n1_; clear n0_ n1_ hC_ hL_ hb hb2))
                  go_meet
                  case rel => exact ⟨_, (y147), H', ⟨by have := HJ2.out; first | omega | exact Nat.le_refl _⟩, ⟨⟨A1_, c1_, rfl, by repeat (first | exact HCr.out | (with_reducible refine Kd.C_alloc ?_ _) | (with_reducible refine Kd.C_drewN ?_ _) | (with_reducible refine Kd.C_drew ?_)), HLr.out⟩⟩, ⟨by (with_reducible repeat (first | refine blk_drewN ?_ _ | refine blk_drew ?_ | refine blk_alloc ?_ _)); exact BK138.out⟩, ⟨by repeat (first | (with_reducible first | exact HB.out | apply below_alloc | apply pw_below_drewN | apply below_drew1 | refine below_set ?_ GE138.out) | exact HB.out)⟩⟩
                · rw [if_neg c29] at H
                  exact absurd H zb46
            case rest =>
              clear HC21
              try clear c1
              try clear c2
              try clear p2
              try clear c7
              try clear c7b0
              try clear c7b1
              try clear c9
              try clear c11
              try clear c12
              try clear c13
              try clear c13b0
              try clear c13b1
              try clear c16
              try clear c16b0
              try clear c17
              try clear c18
              try clear c19
              try clear c20
              try clear c27
              try clear c29
              try clear hcz10_0
              try clear hcz10_1
              try clear hcz10_2
              try clear hcz11_0
              try clear hcz11_1
              try clear hcz11_2
              try clear hcz14_0
              try clear hcz14_1
              try clear hcz14_2
              try clear hcz17_0
              try clear hcz17_1
              try clear hcz17_2
              try clear hcz22_0
              try clear hcz22_1
              try clear hcz22_2
              try clear hcz24_0
              try clear hcz24_1
              try clear hcz24_2
              try clear hcz26_0
              try clear hcz26_1
              try clear hcz26_2
              try clear hcz30_0
              try clear hcz30_1
              try clear hcz30_2
              try clear hcz5_0
              try clear hcz5_1
              try clear hcz5_2
              try clear hfz10_0
              try clear hfz10_1
              try clear hfz10_2
              try clear hfz11_0
              try clear hfz11_1
              try clear hfz11_2
              try clear hfz14_0
              try clear hfz14_1
              try clear hfz14_2
              try clear hfz17_0
              try clear hfz17_1
              try clear hfz17_2
              try clear hfz22_0
              try clear hfz22_1
              try clear hfz22_2
              try clear hfz24_0
              try clear hfz24_1
              try clear hfz24_2
              try clear hfz26_0
              try clear hfz26_1
              try clear hfz26_2
              try clear hfz30_0
              try clear hfz30_1
              try clear hfz30_2
              try clear hfz5_0
              try clear hfz5_1
              try clear hfz5_2
              try clear p2
              obtain ⟨kq, x4_20, HA, HJ20, HO_4, BK138, HB⟩ := hcut
              cases kq with
              | zero => exact absurd HA.out (by simp [response_Print.j1])
              | succ kj20 =>
                have H := HA.out
                clear HA
                simp only [response_Print.j1] at H
                replace H := Option.bind_eq_some_iff.mp H
                obtain ⟨⟨t150, t151⟩, A330, H⟩ := H
                replace H : (if t151 = 0 then ((response_first.f a0_0).bind fun t152 => (if t152.size + 2 ≤ 9223372036854775807 then (if (t152 ++ (⟨#[13, 10]⟩ : ByteArray)).size + t150.size ≤ 9223372036854775807 then (if ((t152 ++ (⟨#[13, 10]⟩ : ByteArray)) ++ t150).size + a0_2.size ≤ 9223372036854775807 then (some (((t152 ++ (⟨#[13, 10]⟩ : ByteArray)) ++ t150) ++ a0_2, 0)) else (none)) else (none)) else (none))) else (some ((⟨#[]⟩ : ByteArray), t151))) = some (r1, r2) := H
                have A33 := Aside0.mk A330
                clear A330
                by_cases c34 : t151 = 0
                · rw [if_pos c34] at H
                  have c34b0 : (t151 == 0) = true := beq_iff_eq.mpr c34
                  have c34b1 : (t151 != 0) = false := bne_eq_false_iff_eq.mpr c34
                  clear c34
                  replace H := Option.bind_eq_some_iff.mp H
                  obtain ⟨t152, A350, H⟩ := H
                  replace H : (if t152.size + 2 ≤ 9223372036854775807 then (if (t152 ++ (⟨#[13, 10]⟩ : ByteArray)).size + t150.size ≤ 9223372036854775807 then (if ((t152 ++ (⟨#[13, 10]⟩ : ByteArray)) ++ t150).size + a0_2.size ≤ 9223372036854775807 then (some (((t152 ++ (⟨#[13, 10]⟩ : ByteArray)) ++ t150) ++ a0_2, 0)) else (none)) else (none)) else (none)) = some (r1, r2) := H
                  have A35 := Aside0.mk A350
                  clear A350
                  by_cases c36 : t152.size + 2 ≤ 9223372036854775807
                  · rw [if_pos c36] at H
                    have c36b0 := eq_true c36
                    have c36b1 : decide (t152.size + 2 ≤ 9223372036854775807) = true := decide_eq_true c36
                    try have c36b2 : (9223372036854775807 < t152.size + 2) = False := eq_false (Nat.not_lt.2 c36)
                    by_cases c37 : (t152 ++ (⟨#[13, 10]⟩ : ByteArray)).size + t150.size ≤ 9223372036854775807
                    · rw [if_pos c37] at H
                      have c37b0 := eq_true c37
                      have c37b1 : decide ((t152 ++ (⟨#[13, 10]⟩ : ByteArray)).size + t150.size ≤ 9223372036854775807) = true := decide_eq_true c37
                      try have c37b2 : (9223372036854775807 < (t152 ++ (⟨#[13, 10]⟩ : ByteArray)).size + t150.size) = False := eq_false (Nat.not_lt.2 c37)
                      obtain ⟨nc37, hc37⟩ : ∃ n_ : Nat, n_ = (t152 ++ (⟨#[13, 10]⟩ : ByteArray)).size + t150.size := ⟨_, rfl⟩
                      have c37m0 : nc37 ≤ 9223372036854775807 := by rw [hc37]; exact c37
                      (first | simp [go_sem, c36b0] at hc37 | simp [go_sem] at hc37 | skip)
                      rw [hc37] at c37m0
                      have c37m1 := eq_false (Nat.not_lt.2 c37m0)
                      have c37m2 := decide_eq_true c37m0
                      clear hc37 c37m0
                      by_cases c38 : ((t152 ++ (⟨#[13, 10]⟩ : ByteArray)) ++ t150).size + a0_2.size ≤ 9223372036854775807
                      · rw [if_pos c38] at H
                        have c38b0 := eq_true c38
                        have c38b1 : decide (((t152 ++ (⟨#[13, 10]⟩ : ByteArray)) ++ t150).size + a0_2.size ≤ 9223372036854775807) = true := decide_eq_true c38
                        try have c38b2 : (9223372036854775807 < ((t152 ++ (⟨#[13, 10]⟩ : ByteArray)) ++ t150).size + a0_2.size) = False := eq_false (Nat.not_lt.2 c38)
                        obtain ⟨nc38, hc38⟩ : ∃ n_ : Nat, n_ = ((t152 ++ (⟨#[13, 10]⟩ : ByteArray)) ++ t150).size + a0_2.size := ⟨_, rfl⟩
                        have c38m0 : nc38 ≤ 9223372036854775807 := by rw [hc38]; exact c38
                        (first | simp [go_sem, c36b0, c37b0] at hc38 | simp [go_sem] at hc38 | skip)
                        rw [hc38] at c38m0
                        have c38m1 := eq_false (Nat.not_lt.2 c38m0)
                        have c38m2 := decide_eq_true c38m0
                        clear hc38 c38m0
                        simp only [Option.some.injEq, Prod.mk.injEq] at H
                        obtain ⟨rfl, rfl⟩ := H
                        obtain ⟨Ao39, co39, eo39, hC_, hL_⟩ := HO_4.out
                        subst eo39
                        have HCr := Aside0.mk hC_
                        have HLr := Aside0.mk hL_
                        clear hC_ hL_ HO_4
                        have HO_4 := Aside0.mk True.intro
                        try go_wp2_with (first | ((with_reducible refine gate_callee (f := 21) rfl ?_); refine goesL_ (some 47) rfl rfl Tryz.func21 zb11 rfl #[.slice Ao39 x4_20.length co39] rfl zb0 ?_; (with_reducible refine (field_Print.calls kj20 _ _ x4_20 t150 t151 _ ?side1 ?side2 A33.out).mono ?_); (case side1 => repeat (first | exact HCr.out | (with_reducible refine Kd.C_alloc ?_ _) | (with_reducible refine Kd.C_drewN ?_ _) | (with_reducible refine Kd.C_drew ?_))); (case side2 => exact HLr.out); rintro e w40 ⟨rfl, hb⟩; refine ⟨_, rfl, ?_⟩; have n0_ := Aside0.mk True.intro; have n1_ := Aside0.mk (blk_below (g := gb138) (o := .cells #[.int .i64 a0_0, .slice A0_1 l0_1.length c0_1, .string a0_2] 24 (0, 0)) zb32 hb); have n2_ := Aside0.mk (below_step zb14 hb); clear HO_4; clear BK138; clear HB; have HO_4 := n0_; have BK138 := n1_; have HB := n2_; clear n0_ n1_ n2_; (try clear hb); (try clear hb2); (try clear hk); (try clear hi)))
                        have n0_ := Aside0.mk True.intro
                        have n1_ := Aside0.mk (blk_drew BK138.out)
                        have n2_ := Aside0.mk (below_drew1 HB.out)
                        clear HO_4
                        clear BK138
                        clear HB
                        have HO_4 := n0_
                        have BK138 := n1_
                        have HB := n2_
                        clear n0_ n1_ n2_
                        refine start_ (n := 11) (S := fun w' => w'.cell? ⟨gb138, 0, none⟩ = some (.int .i64 a0_0) ∧ w'.cell? ⟨gb138, 1, none⟩ = some (.slice A0_1 l0_1.length c0_1) ∧ w'.cell? ⟨gb138, 2, none⟩ = some (.string a0_2)) (ds := []) #[false, false, false, false, false, false, false, false, false, false, false] zb11 rfl rfl ⟨(blk_cell BK138.out 0).trans rfl, (blk_cell BK138.out 1).trans rfl, (blk_cell BK138.out 2).trans rfl⟩ (fun hHeld => ?_); refine with_tabW response_Print.tab14 response_Print.bits14 (fun HT_ HW_ => ?_)
                        generalize w40.drew = w41 at BK138 HB hHeld ⊢
                        refine pure_ (i := 0) (N := some 53) (v := ?_) (a' := ?_) #[true, false, false, false, false, false, false, false, false, false, false] rfl rfl (any_of HT_.out zb11) (fun _ _ _ h => h) (Or.inl ⟨by rfl, ?_⟩) ?_ ?_
                        rotate_left
                        · intro w'
                          go_simp
                          first | with_reducible rfl | (rw [if_neg zb2])
                        rotate_left
                        · simp only [Act.put, List.setIfInBounds_toArray, List.set_cons_zero, List.set_cons_succ, i64_w, i32_w]
                          rfl
                        refine pure_ (i := 4) (N := some 57) (v := ?_) (a' := ?_) #[true, false, false, false, true, false, false, false, false, false, false] rfl rfl (any_of HT_.out zb11) (fun _ _ _ h => h) (Or.inl ⟨by rfl, ?_⟩) ?_ ?_
                        rotate_left
                        · intro w'
                          go_simp
                          first | with_reducible rfl | (rw [if_neg zb2])
                        rotate_left
                        · simp only [Act.put, List.setIfInBounds_toArray, List.set_cons_zero, List.set_cons_succ, i64_w, i32_w]
                          rfl
                        refine pure_ (i := 6) (N := some 59) (v := ?_) (a' := ?_) #[true, false, false, false, true, false, true, false, false, false, false] rfl rfl (any_of HT_.out zb11) (fun _ _ _ h => h) (Or.inl ⟨by rfl, ?_⟩) ?_ ?_
                        rotate_left
                        · intro w'
                          go_simp
                          first | with_reducible rfl | (rw [if_neg zb2])
                        rotate_left
                        · simp only [Act.put, List.setIfInBounds_toArray, List.set_cons_zero, List.set_cons_succ, i64_w, i32_w]
                          rfl
                        refine take_ (i := 1) (N := some 54) (v := ?_) (a' := ?_) #[true, true, false, false, true, false, true, false, false, false, false] rfl rfl (take_ofW HT_.out HW_.out zb11) (fun _ _ _ h => h) (Or.inl ⟨by rfl, ?_⟩) hHeld ?_ ?_
                        rotate_left
                        · rintro w' ⟨s0, s1, s2⟩
                          go_simp
                          first | with_reducible rfl | (rw [if_neg zb2])
                        rotate_left
                        · simp only [Act.put, List.setIfInBounds_toArray, List.set_cons_zero, List.set_cons_succ, i64_w, i32_w]
                          rfl
                        refine take_ (i := 7) (N := some 60) (v := ?_) (a' := ?_) #[true, true, false, false, true, false, true, true, false, false, false] rfl rfl (take_ofW HT_.out HW_.out zb11) (fun _ _ _ h => h) (Or.inl ⟨by rfl, ?_⟩) hHeld ?_ ?_
                        rotate_left
                        · rintro w' ⟨s0, s1, s2⟩
                          go_simp
                          first | with_reducible rfl | (rw [if_neg zb2])
                        rotate_left
                        · simp only [Act.put, List.setIfInBounds_toArray, List.set_cons_zero, List.set_cons_succ, i64_w, i32_w]
                          rfl
                        refine one_ (i := 2) (N := some 55) #[true, true, true, false, true, false, true, true, false, false, false] rfl rfl (one_of HT_.out zb11) zb39 (fun K hK => ?_)
                        refine goes_ Tryz.func22 zb11 rfl #[.int .i64 a0_0] (by rfl) rfl rfl zb0 ?_
                        with_reducible refine (response_first.calls a0_0 t152 _ ?side1 A35.out).mono ?_
                        (case side1 => exact Glob.below hGA.out zb14)
                        rintro e w42 ⟨rfl, hb⟩
                        refine ⟨_, rfl, ?_⟩
                        have n0_ := Aside0.mk True.intro
                        have n1_ := Aside0.mk (blk_below (g := gb138) (o := .cells #[.int .i64 a0_0, .slice A0_1 l0_1.length c0_1, .string a0_2] 24 (0, 0)) zb32 hb)
                        have n2_ := Aside0.mk (below_step zb14 hb)
                        clear HO_4
                        clear BK138
                        clear HB
                        have HO_4 := n0_
                        have BK138 := n1_
                        have HB := n2_
                        clear n0_ n1_ n2_
                        (try clear hb)
                        (try clear hb2)
                        (try clear hk)
                        (try clear hi)
                        refine hK.out _ _ ⟨(blk_cell BK138.out 0).trans rfl, (blk_cell BK138.out 1).trans rfl, (blk_cell BK138.out 2).trans rfl⟩ (fun hHeld => ?_)
                        clear hK K
                        refine norm_ (a' := ?_) ?_ ?_
                        rotate_left
                        · show Act.put _ (some 55) _ = _
                          simp only [Act.put, List.setIfInBounds_toArray, List.set_cons_zero, List.set_cons_succ, i64_w, i32_w]
                          rfl
                        refine pure_ (i := 3) (N := some 56) (v := ?_) (a' := ?_) #[true, true, true, true, true, false, true, true, false, false, false] rfl rfl (any_of HT_.out zb11) (fun _ _ _ h => h) (Or.inl ⟨by rfl, ?_⟩) ?_ ?_
                        rotate_left
                        · intro w'
                          go_simp
                          first | with_reducible rfl | (rw [if_neg zb2])
                        rotate_left
                        · simp only [Act.put, List.setIfInBounds_toArray, List.set_cons_zero, List.set_cons_succ, i64_w, i32_w]
                          rfl
                        refine pure_ (i := 5) (N := some 58) (v := ?_) (a' := ?_) #[true, true, true, true, true, true, true, true, false, false, false] rfl rfl (any_of HT_.out zb11) (fun _ _ _ h => h) (Or.inl ⟨by rfl, ?_⟩) ?_ ?_
                        rotate_left
                        · intro w'
                          go_simp
                          first | with_reducible rfl | (rw [if_neg zb2])
                        rotate_left
                        · simp only [Act.put, List.setIfInBounds_toArray, List.set_cons_zero, List.set_cons_succ, i64_w, i32_w]
                          rfl
                        refine pure_ (i := 8) (N := some 61) (v := ?_) (a' := ?_) #[true, true, true, true, true, true, true, true, true, false, false] rfl rfl (any_of HT_.out zb11) (fun _ _ _ h => h) (Or.inl ⟨by rfl, ?_⟩) ?_ ?_
                        rotate_left
                        · intro w'
                          go_simp
                          first | with_reducible rfl | (rw [if_neg zb2])
                        rotate_left
                        · simp only [Act.put, List.setIfInBounds_toArray, List.set_cons_zero, List.set_cons_succ, i64_w, i32_w]
                          rfl
                        refine pure_ (i := 9) (N := some 2) (v := ?_) (a' := ?_) #[true, true, true, true, true, true, true, true, true, true, false] rfl rfl (any_of HT_.out zb11) (fun _ _ _ h => h) (Or.inl ⟨by rfl, ?_⟩) ?_ ?_
                        rotate_left
                        · intro w'
                          go_simp
                          first | with_reducible rfl | (rw [if_neg zb2])
                        rotate_left
                        · simp only [Act.put, List.setIfInBounds_toArray, List.set_cons_zero, List.set_cons_succ, i64_w, i32_w]
                          rfl
                        refine pure_ (i := 10) (N := some 3) (v := ?_) (a' := ?_) #[true, true, true, true, true, true, true, true, true, true, true] rfl rfl (any_of HT_.out zb11) (fun _ _ _ h => h) (Or.inl ⟨by rfl, ?_⟩) ?_ ?_
                        rotate_left
                        · intro w'
                          go_simp
                          first | with_reducible rfl | (rw [if_neg zb2])
                        rotate_left
                        · simp only [Act.put, List.setIfInBounds_toArray, List.set_cons_zero, List.set_cons_succ, i64_w, i32_w]
                          rfl
                        refine done_ (done_of HT_.out zb11) ?_
                        try go_wp2
                        go_ret2
                        exact ⟨zb9, zb14⟩
                      · rw [if_neg c38] at H
                        exact absurd H zb46
                    · rw [if_neg c37] at H
                      exact absurd H zb46
                  · rw [if_neg c36] at H
                    exact absurd H zb46
                · rw [if_neg c34] at H
                  have c34b0 : (t151 == 0) = false := beq_eq_false_iff_ne.mpr c34
                  have c34b1 : (t151 != 0) = true := bne_iff_ne.mpr c34
                  simp only [Option.some.injEq, Prod.mk.injEq] at H
                  obtain ⟨rfl, rfl⟩ := H
                  obtain ⟨Ao43, co43, eo43, hC_, hL_⟩ := HO_4.out
                  subst eo43
                  have HCr := Aside0.mk hC_
                  have HLr := Aside0.mk hL_
                  clear hC_ hL_ HO_4
                  have HO_4 := Aside0.mk True.intro
                  go_wp2_with (first | ((with_reducible refine gate_callee (f := 21) rfl ?_); refine goesL_ (some 47) rfl rfl Tryz.func21 zb11 rfl #[.slice Ao43 x4_20.length co43] rfl zb0 ?_; (with_reducible refine (field_Print.calls kj20 _ _ x4_20 t150 t151 _ ?side1 ?side2 A33.out).mono ?_); (case side1 => repeat (first | exact HCr.out | (with_reducible refine Kd.C_alloc ?_ _) | (with_reducible refine Kd.C_drewN ?_ _) | (with_reducible refine Kd.C_drew ?_))); (case side2 => exact HLr.out); rintro e w44 ⟨rfl, hb⟩; refine ⟨_, rfl, ?_⟩; have n0_ := Aside0.mk True.intro; have n1_ := Aside0.mk (blk_below (g := gb138) (o := .cells #[.int .i64 a0_0, .slice A0_1 l0_1.length c0_1, .string a0_2] 24 (0, 0)) zb32 hb); have n2_ := Aside0.mk (below_step zb14 hb); clear HO_4; clear BK138; clear HB; have HO_4 := n0_; have BK138 := n1_; have HB := n2_; clear n0_ n1_ n2_; (try clear hb); (try clear hb2); (try clear hk); (try clear hi)))
                  go_ret2
                  exact ⟨zb9, zb14⟩
end Go.Proofs.YtaopopnlnohnpaaGreatDoor.P
