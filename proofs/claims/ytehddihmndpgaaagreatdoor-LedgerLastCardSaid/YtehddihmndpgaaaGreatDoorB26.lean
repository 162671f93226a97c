import Derived.Test.YtehddihmndpgaaaGreatDoorB04
import Derived.Test.YtehddihmndpgaaaGreatDoorB24
set_option linter.unusedSimpArgs false
set_option linter.unusedVariables false
namespace Go.Proofs.Lw
open Go.RowKit Go.Sort Go.Proofs.YtehddihmndpgaaaGreatDoorW.PrintWords Go.Proofs.YtehddihmndpgaaaGreatDoor.PLib
theorem flat_at : ∀ (l : List (S48 × List Value)) (j : Nat) (p : S48 × List Value), l[j]? = some p → (∀ q ∈ l, q.2.length = 31) → ∀ i u, p.2[i]? = some u → (l.map (·.2)).flatten[j * 31 + i]? = some u := by
  intro l
  induction l with
  | nil => intro j p h; simp at h
  | cons a l ih =>
    intro j p h hl i u hu
    have ha : a.2.length = 31 := hl a (by simp)
    cases j with
    | zero =>
      obtain rfl : a = p := by simpa using h
      have hi := (List.getElem?_eq_some_iff.1 hu).1
      simp only [List.map_cons, List.flatten_cons, Nat.zero_mul, Nat.zero_add]
      rw [List.getElem?_append_left hi]; exact hu
    | succ j =>
      simp only [List.map_cons, List.flatten_cons]
      rw [List.getElem?_append_right (by omega), ha, show (j + 1) * 31 + i - 31 = j * 31 + i by omega]
      exact ih j p (by simpa using h) (fun q hq => hl q (by simp [hq])) i u hu
theorem rows_C {w : World} {b : Nat} (l : List (S48 × List Value)) (h : w.heap[b]? = some (.cells (l.map (·.2)).flatten.toArray 48 (0, 0))) (hK : ∀ q ∈ l, k48.K w q.1 q.2) (hN : l.length ≤ 1000) : Kd.C k48 w (some ⟨b, 0, none⟩) (l.map (·.1)).length (l.map (·.1)) := by
  refine ⟨rfl, by simp; omega, fun _ => ⟨_, rfl, fun j p hp => ?_⟩⟩
  rw [List.getElem?_map] at hp
  obtain ⟨q, hq, rfl⟩ := Option.map_eq_some_iff.1 hp
  have hm := List.mem_of_getElem? hq
  refine ⟨q.2, k48_len (hK q hm), hK q hm, fun i u hu => ?_⟩
  exact row_at h _ u (flat_at l j q hq (fun q' h' => k48_len (hK q' h')) i u hu)
def L3 : List (S48 × List Value) := [(tickE 2 0 1, cells48 2 0 1 9 3), (tickE 2 1 1, cells48 2 1 1 9 3), (tickE 5 0 2, cells48 5 0 2 9 3)]
def L2 : List (S48 × List Value) := [(tickE 5 0 2, cells48 5 0 2 9 3), (tickE 2 0 1, cells48 2 0 1 9 3)]
theorem fill3 : ((Tryz.prog.info? 48).bind fun ie => ie.zero.bind fun z => Instr.fill (fun i => some (i * ie.size, ie.size)) ((Array.range (3 * ie.size)).map (z.cells[· % z.cells.size]!)) [(0, .agg (cells48 2 0 1 9 3).toArray), (1, .agg (cells48 2 1 1 9 3).toArray), (2, .agg (cells48 5 0 2 9 3).toArray)]) = some (L3.map (·.2)).flatten.toArray := by kernel_rfl
theorem fill2 : ((Tryz.prog.info? 48).bind fun ie => ie.zero.bind fun z => Instr.fill (fun i => some (i * ie.size, ie.size)) ((Array.range (2 * ie.size)).map (z.cells[· % z.cells.size]!)) [(0, .agg (cells48 5 0 2 9 3).toArray), (1, .agg (cells48 2 0 1 9 3).toArray)]) = some (L2.map (·.2)).flatten.toArray := by kernel_rfl
theorem wpList_build3 {ops : Array Oper} {rest : List Oper} {o : Oper} {a : Act} {w : World} {Q : Exit → Act → World → Prop} (hg : o.guard = none) (x y z : Operand) (ho : o.op = .buildSlice 22 3 #[(0, x), (1, y), (2, z)])
    (c1 c2 c3 : Array Value) (hx : a.eval x = .agg c1) (hy : a.eval y = .agg c2) (hz : a.eval z = .agg c3) (h1 : (cells48 2 0 1 9 3).toArray = c1) (h2 : (cells48 2 1 1 9 3).toArray = c2) (h3 : (cells48 5 0 2 9 3).toArray = c3)
    (t : Option Tmp) (hd : o.dst = t) (h : wpList Tryz.prog ops Q rest (a.put t (.slice (some ⟨w.heap.size, 0, none⟩) 3 3)) (w.alloc (.cells (L3.map (·.2)).flatten.toArray 48))) : wpList Tryz.prog ops Q (o :: rest) a w := by
  subst hd
  obtain ⟨ie, zz, e1, e2, e3, e4, e5⟩ := i48
  refine wpList_buildSlice hg 22 48 3 _ ho _ ie zz Tryz.underlying22 e1 e2 (by omega) (by omega) ?_ h
  have := fill3
  rw [e1] at this
  simp only [Option.bind_some, e2] at this
  rw [parts3, hx, hy, hz, ← h1, ← h2, ← h3]
  exact this
theorem wpList_build2 {ops : Array Oper} {rest : List Oper} {o : Oper} {a : Act} {w : World} {Q : Exit → Act → World → Prop} (hg : o.guard = none) (x y : Operand) (ho : o.op = .buildSlice 22 2 #[(0, x), (1, y)])
    (c1 c2 : Array Value) (hx : a.eval x = .agg c1) (hy : a.eval y = .agg c2) (h1 : (cells48 5 0 2 9 3).toArray = c1) (h2 : (cells48 2 0 1 9 3).toArray = c2)
    (t : Option Tmp) (hd : o.dst = t) (h : wpList Tryz.prog ops Q rest (a.put t (.slice (some ⟨w.heap.size, 0, none⟩) 2 2)) (w.alloc (.cells (L2.map (·.2)).flatten.toArray 48))) : wpList Tryz.prog ops Q (o :: rest) a w := by
  subst hd
  obtain ⟨ie, zz, e1, e2, e3, e4, e5⟩ := i48
  refine wpList_buildSlice hg 22 48 2 _ ho _ ie zz Tryz.underlying22 e1 e2 (by omega) (by omega) ?_ h
  have := fill2
  rw [e1] at this
  simp only [Option.bind_some, e2] at this
  rw [parts2, hx, hy, ← h1, ← h2]
  exact this
/-- The row of the three ticks. -/
structure All (w : World) (b : Nat) (W : World) : Prop where
  bel : Below w.heap.size w W
  row : W.heap[b]? = some (.cells (L3.map (·.2)).flatten.toArray 48 (0, 0))
theorem All.next {w W W' : World} {b : Nat} (h : All w b W) (hb : Below W.heap.size W W') : All w b W' :=
  ⟨h.bel.trans (hb.mono h.bel.size), (hb.block _ (Array.getElem?_eq_some_iff.1 h.row).1).trans h.row⟩
theorem All.c3 {w W : World} {b : Nat} (h : All w b W) : Kd.C k48 W (some ⟨b, 0, none⟩) 3 [tickE 2 0 1, tickE 2 1 1, tickE 5 0 2] :=
  rows_C L3 h.row (fun q hq => by simp only [L3, List.mem_cons, List.not_mem_nil, or_false] at hq; rcases hq with rfl | rfl | rfl <;> exact tick_K _ _ _ W) (by decide)
theorem All.at_ {w W : World} {b : Nat} (h : All w b W) (k : Nat) (q : S48 × List Value) (hq : L3[k]? = some q) : ∀ j v, q.2[j]? = some v → W.cell? ((⟨b, k * 31, none⟩ : Addr).add j) = some v := fun j v hv => by
  rw [show (⟨b, k * 31, none⟩ : Addr).add j = (⟨b, 0, none⟩ : Addr).add (k * 31 + j) from by rw [add_plain]; unfold Addr.add; by_cases hj : j = 0 <;> simp [hj]]
  exact row_at h.row _ v (flat_at L3 k q hq (fun q' h' => by simp only [L3, List.mem_cons, List.not_mem_nil, or_false] at h'; rcases h' with rfl | rfl | rfl <;> rfl) j v hv)
theorem All.drew {w W : World} {b : Nat} (h : All w b W) : All w b W.drew := h.next (Below.refl _ _).drew
theorem region_hand {P : Program} {id : Nat} {ops : Array Oper} {Q : Exit → Act → World → Prop} {a : Act} {w : World} {S : World → Prop} (n : Nat) (hm : P.follows .mixedOrders = true) (hn : ops.size = n)
    (h : (∀ (c : _) (a : Act) (d : Option Tmp) (v : Value) (w : World), NoPanic Q (.panic c) (a.put d v) w → NoPanic Q (.panic c) a w) → wpAnyH P .any ops (NoPanic Q) S n (Array.replicate n false) a w.drew) : (Code.region id ops true).wp P Q a w :=
  wp_region_noPanic (wp_region_held hm (by rw [hn]; exact h (fun _ _ _ _ _ h => h)))
theorem wp_callH {P : Program} {o : Oper} {a : Act} {w : World} {K : Act → World → Prop} {Q : Exit → Act → World → Prop} (f : FuncId) (args : Array Value) (hrun : (execOp a.eval o).run P w = .ok (.enter f args) w) (R : Ending → World → Prop)
    (hc : Calls P f args w R) (h : ∀ e w', R e w' → ∃ v, e = .returned v ∧ K (a.put o.dst v) w') : o.wp P a w K Q := by
  unfold Oper.wp
  rw [hrun, Oper.upon_enter]
  refine hc.mono fun e w'' hh => ?_
  obtain ⟨v, rfl, hK⟩ := h _ _ hh
  exact hK
theorem yieldsIf_load {P : Program} {ops : Array Oper} {S : World → Prop} {op : Oper} {a : Act} (hw : Region.wanted op (yielded ops a.tmps) = true) (ty : TypeId) (x : Operand) (ho : op.op = .load ty x)
    (p : Addr) (hx : a.eval x = .pointer (some p)) (cs : List Value) (d : TypeDesc) (hS : ∀ w, S w → ∀ j v, cs[j]? = some v → w.cell? (p.add j) = some v)
    (hu : P.underlying ty = some d) (hd : d.isRow = true) (hi : (P.info? ty).map (·.size) = some cs.length) (ca : Array Value) (hca : cs.toArray = ca) : YieldsIf P ops S op (.agg ca) a :=
  .inl ⟨hw, fun w hw' => by
    unfold execOp
    simp only [ho, hx, Instr.loadAt, Instr.sureAddr, Sem.run_bind, Sem.run_pure, Result.andThen_ok, run_loadVar_at w p ty cs d (hS w hw') hu hd hi, hca]⟩
theorem wpAnyH_call {P : Program} {ops : Array Oper} {Q : Exit → Act → World → Prop} {S : World → Prop} {fuel : Nat} {listed : Array Bool} {a : Act} {w : World} (i : Nat) (o : Oper) (hr : Region.ready .any ops listed = [i]) (hi : ops[i]? = some o) (hw : Region.wanted o (yielded ops a.tmps) = true) (t : Option Tmp) (hd : o.dst = t)
    (f : FuncId) (args : Array Value) (hrun : (execOp a.eval o).run P w = .ok (.enter f args) w) (R : Ending → World → Prop) (hc : Calls P f args w R)
    (h : ∀ e w', R e w' → ∃ v, e = .returned v ∧ S w' ∧ wpAnyH P .any ops Q S fuel (listed.setIfInBounds i true) (a.put t v) w') : wpAnyH P .any ops Q S (fuel + 1) listed a w := by
  subst hd
  refine wpAnyH_all hr (by simp) fun j hj => ?_
  obtain rfl := List.mem_singleton.1 hj
  unfold wpOp
  simp only [hi, hw, if_true]
  refine .inl (wp_callH f args hrun R hc fun e w' hR => ?_)
  obtain ⟨v, rfl, hS, hh⟩ := h e w' hR
  exact ⟨v, rfl, hS, hh⟩
theorem All.c2 {w W : World} {b : Nat} (h : All w b W) : Kd.C k48 W (some ⟨b, 0, none⟩) 2 [tickE 2 0 1, tickE 2 1 1] := Kd.C_take (m := 2) h.c3 (by decide)
theorem All.d1 {w W : World} {b : Nat} (h : All w b W) : Kd.C k48 W (some ⟨b, 31, none⟩) 2 [tickE 2 1 1, tickE 5 0 2] := Kd.C_drop (m := 1) (c := 3) h.c3 (by decide) (by decide)
/-- A put or a merge that gives the whole row. -/
def Got (W : World) (n : Int) (e : Ending) (W' : World) : Prop := Below W.heap.size W W' ∧ ∃ A c, e = .returned (.tuple #[.slice A 3 c, .int .i64 n, .int .i64 0]) ∧ Kd.C k48 W' A 3 [tickE 2 0 1, tickE 2 1 1, tickE 5 0 2]
theorem sp1 {w W : World} {b : Nat} (h : All w b W) (hG : Glob W) : Calls Tryz.prog 11 #[.slice (some ⟨b, 0, none⟩) 2 3, .agg (cells48 5 0 2 9 3).toArray] W (Got W 2) := by
  have := put_any chk_all (some ⟨b, 0, none⟩) 3 [tickE 2 0 1, tickE 2 1 1] (tickE 5 0 2) _ W h.c2 (by decide) (tick_K 5 0 2 W) hG
  rw [sput1] at this
  refine this.mono fun e W' hh => ?_
  obtain ⟨hB, A, c, rfl, _, hC⟩ := hh
  exact ⟨hB, A, c, rfl, hC⟩
theorem sp2 {w W : World} {b : Nat} (h : All w b W) (hG : Glob W) : Calls Tryz.prog 11 #[.slice (some ⟨b, 31, none⟩) 2 2, .agg (cells48 2 0 1 9 3).toArray] W (Got W 0) := by
  have := put_any chk_all (some ⟨b, 31, none⟩) 2 [tickE 2 1 1, tickE 5 0 2] (tickE 2 0 1) _ W h.d1 (by decide) (tick_K 2 0 1 W) hG
  rw [sput2] at this
  refine this.mono fun e W' hh => ?_
  obtain ⟨hB, A, c, rfl, _, hC⟩ := hh
  exact ⟨hB, A, c, rfl, hC⟩
theorem sm1 {w W : World} {b : Nat} (h : All w b W) (hG : Glob W) : Calls Tryz.prog 10 #[.slice (some ⟨b, 0, none⟩) 3 3, .slice (some ⟨b, 31, none⟩) 2 2] W fun e W' => Below W.heap.size W W' ∧ ∃ A c, e = .returned (.tuple #[.slice A 3 c, .int .i64 0]) ∧ Kd.C k48 W' A 3 [tickE 2 0 1, tickE 2 1 1, tickE 5 0 2] := by
  have := merge_any chk_all (some ⟨b, 0, none⟩) (some ⟨b, 31, none⟩) 3 2 _ _ W h.c3 (by decide) h.d1 (by decide) hG
  rw [smrg] at this
  refine this.mono fun e W' hh => ?_
  obtain ⟨hB, A, c, rfl, _, hC⟩ := hh
  exact ⟨hB, A, c, rfl, hC⟩
theorem nil48 (W : World) : Kd.C k48 W none ([] : List S48).length [] := ⟨rfl, by simp, fun h => by simp at h⟩
theorem spz (W : World) (hG : Glob W) : Calls Tryz.prog 11 #[.slice none 0 0, .agg (cells48 0 0 0 0 0).toArray] W fun e W' => e = .returned (.tuple #[.slice none 0 0, .int .i64 0, .int .i64 80]) ∧ Below W.heap.size W W' := by
  have := put_any chk_all none 0 [] zeroE _ W (nil48 W) (by decide) (zero_K W) hG
  rw [sputz] at this
  exact this.mono fun e W' hh => ⟨hh.2, hh.1⟩
theorem spn {w W : World} {b : Nat} (h : All w b W) (hG : Glob W) : Calls Tryz.prog 11 #[.slice (some ⟨b, 0, none⟩) 3 3, .agg (cells48 2 0 9 9 3).toArray] W fun e W' => e = .returned (.tuple #[.slice none 0 0, .int .i64 0, .int .i64 390]) ∧ Below W.heap.size W W' := by
  have := put_any chk_all (some ⟨b, 0, none⟩) 3 _ (tickE 2 0 9) _ W h.c3 (by decide) (tick_K 2 0 9 W) hG
  rw [sputn] at this
  exact this.mono fun e W' hh => ⟨hh.2, hh.1⟩
theorem sm0 (W : World) (hG : Glob W) : Calls Tryz.prog 10 #[.slice none 0 0, .slice none 0 0] W fun e W' => Below W.heap.size W W' ∧ ∃ A c, e = .returned (.tuple #[.slice A 0 c, .int .i64 0]) := by
  have := merge_any chk_all none none 0 0 [] [] W (nil48 W) (by decide) (nil48 W) (by decide) hG
  rw [smrg0] at this
  refine this.mono fun e W' hh => ?_
  obtain ⟨hB, A, c, rfl, _, hC⟩ := hh
  exact ⟨hB, A, c, rfl⟩
theorem su1 {w W : World} {b : Nat} (h : All w b W) (hG : Glob W) : Calls Tryz.prog 14 #[.slice (some ⟨b, 0, none⟩) 3 3, .int .i64 16] W fun e W' => Below W.heap.size W W' ∧ ∃ A c, e = .returned (.tuple #[.slice A 1 c, .int .i64 0]) ∧ Kd.C k48 W' A 1 [tickE 2 0 1] := by
  have := upto_any chk_all (some ⟨b, 0, none⟩) 3 _ 16 W h.c3 hG
  rw [scheck3, supto] at this
  refine this.mono fun e W' hh => ?_
  obtain ⟨hB, hh⟩ := hh
  rw [if_neg (by decide)] at hh
  obtain ⟨A, c, rfl, _, hC⟩ := hh
  exact ⟨hB, A, c, rfl, hC⟩
theorem wpAnyH_takeTo {P : Program} {ops : Array Oper} {Q : Exit → Act → World → Prop} {S : World → Prop} {i : Nat} {oi : Oper} {v : Value} {t : Option Tmp} {fuel : Nat} {listed : Array Bool} {a : Act} {w : World} (hi : ops[i]? = some oi)
    (hs : Region.noSelect ops = true) (hf : Region.free .any ops listed i = true) (hr : (Region.ready .any ops listed).contains i = true)
    (hQ : ∀ (c : _) (a : Act) (d : Option Tmp) (v : Value) (w : World), Q (.panic c) (a.put d v) w → Q (.panic c) a w) (hy : YieldsIf P ops S oi v a) (hS : S w) (hd : oi.dst = t)
    (h : wpAnyH P .any ops Q S fuel (listed.setIfInBounds i true) (a.put t v) w) : wpAnyH P .any ops Q S (fuel + 1) listed a w := by
  subst hd
  exact wpAnyH_take hi hs hf hr (fun c a w h => hQ c _ _ _ w h) hy hS h
/-- A step that is no call and makes memory. -/
theorem wpAnyH_step {P : Program} {ops : Array Oper} {Q : Exit → Act → World → Prop} {S : World → Prop} {fuel : Nat} {listed : Array Bool} {a : Act} {w : World} (i : Nat) (o : Oper) (hr : Region.ready .any ops listed = [i]) (hi : ops[i]? = some o) (hw : Region.wanted o (yielded ops a.tmps) = true)
    (h : ∀ K : Act → World → Prop, (∀ a' w', S w' ∧ wpAnyH P .any ops Q S fuel (listed.setIfInBounds i true) a' w' → K a' w') → o.wp P a w K Q) : wpAnyH P .any ops Q S (fuel + 1) listed a w := by
  refine wpAnyH_all hr (by simp) fun j hj => ?_
  obtain rfl := List.mem_singleton.1 hj
  unfold wpOp
  simp only [hi, hw, if_true]
  exact .inl (h _ fun a' w' hh => hh)
theorem wp_build2 {o : Oper} {a : Act} {w : World} {K : Act → World → Prop} {Q : Exit → Act → World → Prop} (x y : Operand) (ho : o.op = .buildSlice 22 2 #[(0, x), (1, y)])
    (c1 c2 : Array Value) (hx : a.eval x = .agg c1) (hy : a.eval y = .agg c2) (h1 : (cells48 5 0 2 9 3).toArray = c1) (h2 : (cells48 2 0 1 9 3).toArray = c2)
    (t : Option Tmp) (hd : o.dst = t) (h : K (a.put t (.slice (some ⟨w.heap.size, 0, none⟩) 2 2)) (w.alloc (.cells (L2.map (·.2)).flatten.toArray 48))) : o.wp Tryz.prog a w K Q := by
  subst hd
  obtain ⟨ie, zz, e1, e2, e3, e4, e5⟩ := i48
  refine wp_buildSlice 22 48 2 _ ho _ ie zz Tryz.underlying22 e1 e2 (by omega) (by omega) ?_ h
  have := fill2
  rw [e1] at this
  simp only [Option.bind_some, e2] at this
  rw [parts2, hx, hy, ← h1, ← h2]
  exact this
theorem All.at32 {w W : World} {b : Nat} (h : All w b W) : ∀ j v, ([.int .i64 5, .int .i64 0, .int .i64 2] : List Value)[j]? = some v → W.cell? ((⟨b, 62, none⟩ : Addr).add j) = some v := fun j v hv => by
  refine h.at_ 2 _ rfl j v ?_
  have hj := (List.getElem?_eq_some_iff.1 hv).1
  simp only [List.length_cons, List.length_nil] at hj
  have : j = 0 ∨ j = 1 ∨ j = 2 := by omega
  rcases this with rfl | rfl | rfl <;> exact hv
structure Res (w : World) (b : Nat) (X2 X5 X8 X18 : Option Addr) (W : World) : Prop where
  all : All w b W
  c2 : Kd.C k48 W X2 3 [tickE 2 0 1, tickE 2 1 1, tickE 5 0 2]
  c5 : Kd.C k48 W X5 3 [tickE 2 0 1, tickE 2 1 1, tickE 5 0 2]
  c8 : Kd.C k48 W X8 3 [tickE 2 0 1, tickE 2 1 1, tickE 5 0 2]
  c18 : Kd.C k48 W X18 1 [tickE 2 0 1]
theorem Res.next {w W W' : World} {b : Nat} {X2 X5 X8 X18 : Option Addr} (h : Res w b X2 X5 X8 X18 W) (hb : Below W.heap.size W W') : Res w b X2 X5 X8 X18 W' :=
  ⟨h.all.next hb, Kd.C_below h.c2 hb, Kd.C_below h.c5 hb, Kd.C_below h.c8 hb, Kd.C_below h.c18 hb⟩
theorem Res.drew {w W : World} {b : Nat} {X2 X5 X8 X18 : Option Addr} (h : Res w b X2 X5 X8 X18 W) : Res w b X2 X5 X8 X18 W.drew := h.next (Below.refl _ _).drew
theorem Res.alloc {w W : World} {b : Nat} {X2 X5 X8 X18 : Option Addr} (h : Res w b X2 X5 X8 X18 W) (o : Obj) : Res w b X2 X5 X8 X18 (W.alloc o) := h.next ((Below.refl _ _).alloc (Nat.le_refl _) o)
theorem sck0 {cz : Array Value} (hcz : (cells48 0 0 0 0 0).toArray = cz) (W : World) (hG : Glob W) : Calls Tryz.prog 18 #[.agg cz] W fun e W' => e = .returned (.int .i64 80) ∧ Below W.heap.size W W' := by
  have := chk_all.call zeroE _ W (zero_K W) hG
  rw [chk_zero, hcz] at this
  exact this
theorem sc9n (W : World) (hG : Glob W) : Calls Tryz.prog 9 #[.slice none 0 0] W fun e W' => e = .returned (.int .i64 0) ∧ Below W.heap.size W W' := by
  have := check_any chk_all none 0 [] W (nil48 W) hG
  rw [scheck0] at this
  exact this
theorem sc9a {w W : World} {b : Nat} (h : All w b W) (hG : Glob W) : Calls Tryz.prog 9 #[.slice (some ⟨b, 0, none⟩) 3 3] W fun e W' => e = .returned (.int .i64 0) ∧ Below W.heap.size W W' := by
  have := check_any chk_all (some ⟨b, 0, none⟩) 3 _ W h.c3 hG
  rw [scheck3] at this
  exact this
theorem sc92 {W : World} {g : Nat} (h : W.heap[g]? = some (.cells (L2.map (·.2)).flatten.toArray 48 (0, 0))) (hG : Glob W) : Calls Tryz.prog 9 #[.slice (some ⟨g, 0, none⟩) 2 2] W fun e W' => e = .returned (.int .i64 390) ∧ Below W.heap.size W W' := by
  have hC : Kd.C k48 W (some ⟨g, 0, none⟩) 2 [tickE 5 0 2, tickE 2 0 1] := rows_C L2 h (fun q hq => by simp only [L2, List.mem_cons, List.not_mem_nil, or_false] at hq; rcases hq with rfl | rfl <;> exact tick_K _ _ _ W) (by decide)
  have := check_any chk_all (some ⟨g, 0, none⟩) 2 _ W hC hG
  rw [scheck20] at this
  exact this
theorem ss3 {w W : World} {b c : Nat} {A : Option Addr} (hC : Kd.C k48 W A 3 [tickE 2 0 1, tickE 2 1 1, tickE 5 0 2]) (h : All w b W) : Calls Tryz.prog 12 #[.slice A 3 c, .slice (some ⟨b, 0, none⟩) 3 3] W fun e W' => e = .returned (.bool true) ∧ Below W.heap.size W W' := by
  have := refsame_any A (some ⟨b, 0, none⟩) c 3 _ _ W hC h.c3
  rw [decide_eq_true rfl] at this
  exact this
theorem ss1 {w W : World} {b c : Nat} {A : Option Addr} (hC : Kd.C k48 W A 1 [tickE 2 0 1]) (h : All w b W) : Calls Tryz.prog 12 #[.slice A 1 c, .slice (some ⟨b, 0, none⟩) 1 3] W fun e W' => e = .returned (.bool true) ∧ Below W.heap.size W W' := by
  have h1 : Kd.C k48 W (some ⟨b, 0, none⟩) 1 [tickE 2 0 1] := Kd.C_take (m := 1) h.c3 (by decide)
  have := refsame_any A (some ⟨b, 0, none⟩) c 3 _ _ W hC h1
  rw [decide_eq_true rfl] at this
  exact this
theorem sl3 {w W : World} {b : Nat} (h : All w b W) : Calls Tryz.prog 16 #[.slice (some ⟨b, 0, none⟩) 3 3, .int .i64 0] W fun e W' => e = .returned (.agg #[.int .i64 5, .int .i64 0, .int .i64 2]) ∧ Below W.heap.size W W' := by
  have := last_any (some ⟨b, 0, none⟩) 3 _ 0 W h.c3
  rw [slast] at this
  exact this
theorem sl0 (W : World) : Calls Tryz.prog 16 #[.slice none 0 0, .int .i64 (-1)] W fun e W' => e = .returned (.agg #[.int .i64 0, .int .i64 (-1), .int .i64 0]) ∧ Below W.heap.size W W' := by
  have := last_any none 0 [] (-1) W (nil48 W)
  rw [slast0] at this
  exact this
set_option maxHeartbeats 8000000
set_option maxRecDepth 100000 in
theorem sane_t : Sane Glob := by
  intro w hG
  obtain ⟨c0, hc0⟩ : ∃ c, (cells48 2 0 1 9 3).toArray = c := ⟨_, rfl⟩
  obtain ⟨c1, hc1⟩ : ∃ c, (cells48 2 1 1 9 3).toArray = c := ⟨_, rfl⟩
  obtain ⟨c2, hc2⟩ : ∃ c, (cells48 5 0 2 9 3).toArray = c := ⟨_, rfl⟩
  have t0 := fun W => tick_any 2 0 1 W
  have t1 := fun W => tick_any 2 1 1 W
  have t2 := fun W => tick_any 5 0 2 W
  rw [hc0] at t0
  rw [hc1] at t1
  rw [hc2] at t2
  obtain ⟨cz, hcz⟩ : ∃ c, (cells48 0 0 0 0 0).toArray = c := ⟨_, rfl⟩
  obtain ⟨cn, hcn⟩ : ∃ c, (cells48 2 0 9 9 3).toArray = c := ⟨_, rfl⟩
  have t3 := fun W => tick_any 2 0 9 W
  rw [hcn] at t3
  go_enter Tryz.func7, Tryz.ntmps7
  go_upto_region 2 with (first
    | ((with_reducible change Calls _ 19 #[Value.int .i64 5, _, _] _ _); refine (t2 _).mono ?_; rintro e W3 ⟨rfl, hB3⟩)
    | ((with_reducible change Calls _ 19 #[_, Value.int .i64 1, _] _ _); refine (t1 _).mono ?_; rintro e W2 ⟨rfl, hB2⟩)
    | ((with_reducible change Calls _ 19 #[Value.int .i64 2, Value.int .i64 0, _] _ _); refine (t0 _).mono ?_; rintro e W1 ⟨rfl, hB1⟩)
    | ((with_reducible change wpList _ _ _ (⟨_, .buildSlice 22 3 _, _, _, _, _⟩ :: _) _ _); refine wpList_build3 rfl _ _ _ rfl c0 c1 c2 rfl rfl rfl hc0 hc1 hc2 _ rfl ?_))
  have hA : All w W3.heap.size (W3.alloc (.cells (L3.map (·.2)).flatten.toArray 48)) := ⟨((hB1.trans (hB2.mono hB1.size)).trans (hB3.mono (hB1.trans (hB2.mono hB1.size)).size)).alloc ((hB1.trans (hB2.mono hB1.size)).trans (hB3.mono (hB1.trans (hB2.mono hB1.size)).size)).size _, heap_alloc_new _ _⟩
  generalize W3.alloc (.cells (L3.map (·.2)).flatten.toArray 48) = W4 at hA ⊢
  generalize W3.heap.size = b at hA ⊢
  clear hB1 hB2 hB3 t0 t1 t2
  have GA := fun {W : World} (h : All w b W) => hG.below h.bel
  have hAd := hA.drew
  have p1 := sp1 hAd (GA hAd)
  rw [hc2] at p1
  have HS := Lib.hid hAd
  have HGA := Lib.hid (fun W (h : All w b W) => hG.below h.bel)
  clear GA hA hAd
  refine region_hand (S := All w b) 13 (by kernel_rfl) (by kernel_rfl) (fun hQ => ?_)
  refine wpAnyH_takeTo (i := 0) (v := .slice (some ⟨b, 0, none⟩) 3 3) (t := some 25) rfl (by kernel_rfl) (by kernel_rfl) (by kernel_rfl) hQ (.inl ⟨by kernel_rfl, fun W _ => by kernel_rfl⟩) HS.out (by kernel_rfl) ?_
  (try simp only [Act.put, List.setIfInBounds_toArray, List.set_cons_zero, List.set_cons_succ])
  refine wpAnyH_takeTo (i := 1) (v := .slice (some ⟨b, 0, none⟩) 2 3) (t := some 26) rfl (by kernel_rfl) (by kernel_rfl) (by kernel_rfl) hQ (.inl ⟨by kernel_rfl, fun W _ => by kernel_rfl⟩) HS.out (by kernel_rfl) ?_
  (try simp only [Act.put, List.setIfInBounds_toArray, List.set_cons_zero, List.set_cons_succ])
  refine wpAnyH_takeTo (i := 2) (v := .slice (some ⟨b, 0, none⟩) 3 3) (t := some 27) rfl (by kernel_rfl) (by kernel_rfl) (by kernel_rfl) hQ (.inl ⟨by kernel_rfl, fun W _ => by kernel_rfl⟩) HS.out (by kernel_rfl) ?_
  (try simp only [Act.put, List.setIfInBounds_toArray, List.set_cons_zero, List.set_cons_succ])
  refine wpAnyH_takeTo (i := 3) (v := .pointer (some ⟨b, 62, none⟩)) (t := some 28) rfl (by kernel_rfl) (by kernel_rfl) (by kernel_rfl) hQ (.inl ⟨by kernel_rfl, fun W _ => by kernel_rfl⟩) HS.out (by kernel_rfl) ?_
  (try simp only [Act.put, List.setIfInBounds_toArray, List.set_cons_zero, List.set_cons_succ])
  refine wpAnyH_takeTo (i := 4) (v := .agg c2) (t := some 29) rfl (by kernel_rfl) (by kernel_rfl) (by kernel_rfl) hQ (yieldsIf_load (by kernel_rfl) 48 (.tmp 28) rfl ⟨b, 62, none⟩ (by kernel_rfl) (cells48 5 0 2 9 3) _ (fun W hW => hW.at_ 2 _ rfl) Tryz.underlying48 rfl info48 _ hc2) HS.out (by kernel_rfl) ?_
  (try simp only [Act.put, List.setIfInBounds_toArray, List.set_cons_zero, List.set_cons_succ])
  refine wpAnyH_call 5 _ (by kernel_rfl) rfl (by kernel_rfl) (some 30) (by kernel_rfl) 11 #[.slice (some ⟨b, 0, none⟩) 2 3, .agg c2] (by kernel_rfl) _ p1 (fun e W5 hR => ?_)
  obtain ⟨hB5, X2, x2, rfl, C2⟩ := hR
  have hA5 := HS.out.next hB5
  refine ⟨_, rfl, hA5, ?_⟩
  (try simp only [Act.put, List.setIfInBounds_toArray, List.set_cons_zero, List.set_cons_succ])
  refine wpAnyH_takeTo (i := 6) (v := .tuple #[.slice X2 3 x2, .int .i64 2, .int .i64 0]) (t := some 24) rfl (by kernel_rfl) (by kernel_rfl) (by kernel_rfl) hQ (.inl ⟨by kernel_rfl, fun W _ => by kernel_rfl⟩) hA5 (by kernel_rfl) ?_
  (try simp only [Act.put, List.setIfInBounds_toArray, List.set_cons_zero, List.set_cons_succ])
  refine wpAnyH_takeTo (i := 7) (v := .slice X2 3 x2) (t := some 31) rfl (by kernel_rfl) (by kernel_rfl) (by kernel_rfl) hQ (.inl ⟨by kernel_rfl, fun W _ => by kernel_rfl⟩) hA5 (by kernel_rfl) ?_
  (try simp only [Act.put, List.setIfInBounds_toArray, List.set_cons_zero, List.set_cons_succ])
  refine wpAnyH_takeTo (i := 8) (v := .int .i64 2) (t := some 32) rfl (by kernel_rfl) (by kernel_rfl) (by kernel_rfl) hQ (.inl ⟨by kernel_rfl, fun W _ => by kernel_rfl⟩) hA5 (by kernel_rfl) ?_
  (try simp only [Act.put, List.setIfInBounds_toArray, List.set_cons_zero, List.set_cons_succ])
  refine wpAnyH_takeTo (i := 9) (v := .int .i64 0) (t := some 33) rfl (by kernel_rfl) (by kernel_rfl) (by kernel_rfl) hQ (.inl ⟨by kernel_rfl, fun W _ => by kernel_rfl⟩) hA5 (by kernel_rfl) ?_
  (try simp only [Act.put, List.setIfInBounds_toArray, List.set_cons_zero, List.set_cons_succ])
  refine wpAnyH_takeTo (i := 10) (v := .slice X2 3 x2) (t := some 2) rfl (by kernel_rfl) (by kernel_rfl) (by kernel_rfl) hQ (.inl ⟨by kernel_rfl, fun W _ => by kernel_rfl⟩) hA5 (by kernel_rfl) ?_
  (try simp only [Act.put, List.setIfInBounds_toArray, List.set_cons_zero, List.set_cons_succ])
  refine wpAnyH_takeTo (i := 11) (v := .int .i64 2) (t := some 3) rfl (by kernel_rfl) (by kernel_rfl) (by kernel_rfl) hQ (.inl ⟨by kernel_rfl, fun W _ => by kernel_rfl⟩) hA5 (by kernel_rfl) ?_
  (try simp only [Act.put, List.setIfInBounds_toArray, List.set_cons_zero, List.set_cons_succ])
  refine wpAnyH_takeTo (i := 12) (v := .int .i64 0) (t := some 4) rfl (by kernel_rfl) (by kernel_rfl) (by kernel_rfl) hQ (.inl ⟨by kernel_rfl, fun W _ => by kernel_rfl⟩) hA5 (by kernel_rfl) ?_
  (try simp only [Act.put, List.setIfInBounds_toArray, List.set_cons_zero, List.set_cons_succ])
  refine wpAnyH_done (by kernel_rfl) (NoPanic.normal ?_) _
  clear hQ
  go_wp2_with fail
  -- region 3
  have hA3 := hA5.drew
  have p2 := sp2 hA3 (HGA.out _ hA3)
  rw [hc0] at p2
  have HS := Lib.hid hA3
  clear p1 hA3
  refine region_hand (S := All w b) 13 (by kernel_rfl) (by kernel_rfl) (fun hQ => ?_)
  refine wpAnyH_takeTo (i := 0) (v := .slice (some ⟨b, 0, none⟩) 3 3) (t := some 35) rfl (by kernel_rfl) (by kernel_rfl) (by kernel_rfl) hQ (.inl ⟨by kernel_rfl, fun W _ => by kernel_rfl⟩) HS.out (by kernel_rfl) ?_
  (try simp only [Act.put, List.setIfInBounds_toArray, List.set_cons_zero, List.set_cons_succ])
  refine wpAnyH_takeTo (i := 1) (v := .slice (some ⟨b, 31, none⟩) 2 2) (t := some 36) rfl (by kernel_rfl) (by kernel_rfl) (by kernel_rfl) hQ (.inl ⟨by kernel_rfl, fun W _ => by kernel_rfl⟩) HS.out (by kernel_rfl) ?_
  (try simp only [Act.put, List.setIfInBounds_toArray, List.set_cons_zero, List.set_cons_succ])
  refine wpAnyH_takeTo (i := 2) (v := .slice (some ⟨b, 0, none⟩) 3 3) (t := some 37) rfl (by kernel_rfl) (by kernel_rfl) (by kernel_rfl) hQ (.inl ⟨by kernel_rfl, fun W _ => by kernel_rfl⟩) HS.out (by kernel_rfl) ?_
  (try simp only [Act.put, List.setIfInBounds_toArray, List.set_cons_zero, List.set_cons_succ])
  refine wpAnyH_takeTo (i := 3) (v := .pointer (some ⟨b, 0, none⟩)) (t := some 38) rfl (by kernel_rfl) (by kernel_rfl) (by kernel_rfl) hQ (.inl ⟨by kernel_rfl, fun W _ => by kernel_rfl⟩) HS.out (by kernel_rfl) ?_
  (try simp only [Act.put, List.setIfInBounds_toArray, List.set_cons_zero, List.set_cons_succ])
  refine wpAnyH_takeTo (i := 4) (v := .agg c0) (t := some 39) rfl (by kernel_rfl) (by kernel_rfl) (by kernel_rfl) hQ (yieldsIf_load (by kernel_rfl) 48 (.tmp 38) rfl ⟨b, 0, none⟩ (by kernel_rfl) (cells48 2 0 1 9 3) _ (fun W hW => hW.at_ 0 _ rfl) Tryz.underlying48 rfl info48 _ hc0) HS.out (by kernel_rfl) ?_
  (try simp only [Act.put, List.setIfInBounds_toArray, List.set_cons_zero, List.set_cons_succ])
  refine wpAnyH_call 5 _ (by kernel_rfl) rfl (by kernel_rfl) (some 40) (by kernel_rfl) 11 #[.slice (some ⟨b, 31, none⟩) 2 2, .agg c0] (by kernel_rfl) _ p2 (fun e W6 hR => ?_)
  obtain ⟨hB6, X5, x5, rfl, C5⟩ := hR
  have hA6 := HS.out.next hB6
  refine ⟨_, rfl, hA6, ?_⟩
  (try simp only [Act.put, List.setIfInBounds_toArray, List.set_cons_zero, List.set_cons_succ])
  refine wpAnyH_takeTo (i := 6) (v := .tuple #[.slice X5 3 x5, .int .i64 0, .int .i64 0]) (t := some 34) rfl (by kernel_rfl) (by kernel_rfl) (by kernel_rfl) hQ (.inl ⟨by kernel_rfl, fun W _ => by kernel_rfl⟩) hA6 (by kernel_rfl) ?_
  (try simp only [Act.put, List.setIfInBounds_toArray, List.set_cons_zero, List.set_cons_succ])
  refine wpAnyH_takeTo (i := 7) (v := .slice X5 3 x5) (t := some 41) rfl (by kernel_rfl) (by kernel_rfl) (by kernel_rfl) hQ (.inl ⟨by kernel_rfl, fun W _ => by kernel_rfl⟩) hA6 (by kernel_rfl) ?_
  (try simp only [Act.put, List.setIfInBounds_toArray, List.set_cons_zero, List.set_cons_succ])
  refine wpAnyH_takeTo (i := 8) (v := .int .i64 0) (t := some 42) rfl (by kernel_rfl) (by kernel_rfl) (by kernel_rfl) hQ (.inl ⟨by kernel_rfl, fun W _ => by kernel_rfl⟩) hA6 (by kernel_rfl) ?_
  (try simp only [Act.put, List.setIfInBounds_toArray, List.set_cons_zero, List.set_cons_succ])
  refine wpAnyH_takeTo (i := 9) (v := .int .i64 0) (t := some 43) rfl (by kernel_rfl) (by kernel_rfl) (by kernel_rfl) hQ (.inl ⟨by kernel_rfl, fun W _ => by kernel_rfl⟩) hA6 (by kernel_rfl) ?_
  (try simp only [Act.put, List.setIfInBounds_toArray, List.set_cons_zero, List.set_cons_succ])
  refine wpAnyH_takeTo (i := 10) (v := .slice X5 3 x5) (t := some 5) rfl (by kernel_rfl) (by kernel_rfl) (by kernel_rfl) hQ (.inl ⟨by kernel_rfl, fun W _ => by kernel_rfl⟩) hA6 (by kernel_rfl) ?_
  (try simp only [Act.put, List.setIfInBounds_toArray, List.set_cons_zero, List.set_cons_succ])
  refine wpAnyH_takeTo (i := 11) (v := .int .i64 0) (t := some 6) rfl (by kernel_rfl) (by kernel_rfl) (by kernel_rfl) hQ (.inl ⟨by kernel_rfl, fun W _ => by kernel_rfl⟩) hA6 (by kernel_rfl) ?_
  (try simp only [Act.put, List.setIfInBounds_toArray, List.set_cons_zero, List.set_cons_succ])
  refine wpAnyH_takeTo (i := 12) (v := .int .i64 0) (t := some 7) rfl (by kernel_rfl) (by kernel_rfl) (by kernel_rfl) hQ (.inl ⟨by kernel_rfl, fun W _ => by kernel_rfl⟩) hA6 (by kernel_rfl) ?_
  (try simp only [Act.put, List.setIfInBounds_toArray, List.set_cons_zero, List.set_cons_succ])
  refine wpAnyH_done (by kernel_rfl) (NoPanic.normal ?_) _
  clear hQ
  go_wp2_with fail
  -- region 4
  have C2 := Kd.C_below C2 ((Below.refl _ _).drew.trans (hB6.mono (by simp)))
  have m1 := sm1 hA6 (HGA.out _ hA6)
  have HA6 := Lib.hid hA6
  have HC2 := Lib.hid C2
  have HC5 := Lib.hid C5
  clear p2 hA6 hB6 C5 C2 hA5 hB5
  go_upto_region 5 with (go_at_call 10; refine m1.mono ?_; rintro e W7 ⟨hB7, X8, x8, rfl, C8⟩)
  -- region 5
  have hA7 := HA6.out.next hB7
  have pz := spz W7 (HGA.out _ hA7)
  rw [hcz] at pz
  have HA7 := Lib.hid hA7
  have HC2 := Lib.hid (Kd.C_below HC2.out hB7)
  have HC5 := Lib.hid (Kd.C_below HC5.out hB7)
  have HC8 := Lib.hid C8
  clear m1 hA7 hB7 C8
  go_upto_region 6 with (first
    | ((with_reducible change wpList _ _ _ (⟨_, .build 48 _, _, _, _, _⟩ :: _) _ _); refine wpList_buildTo rfl 48 _ rfl _ rfl cz (by rw [← hcz]; simp only [List.map_toArray, List.map_nil]; exact built48z) ?_)
    | (go_at_call 11; refine pz.mono ?_; rintro e W8 ⟨rfl, hB8⟩))
  -- region 6
  have hA8 := HA7.out.next hB8
  have HA8 := Lib.hid hA8
  have HC2 := Lib.hid (Kd.C_below HC2.out hB8)
  have HC5 := Lib.hid (Kd.C_below HC5.out hB8)
  have HC8 := Lib.hid (Kd.C_below HC8.out hB8)
  have pn := fun W (h : All w b W) => spn h (HGA.out _ h)
  rw [hcn] at pn
  clear pz hA8 hB8
  go_upto_region 7 with (first
    | (go_at_call 11; refine (pn _ (HA8.out.next hB9)).mono ?_; rintro e W10 ⟨rfl, hB10⟩)
    | (go_at_call 19; refine (t3 _).mono ?_; rintro e W9 ⟨rfl, hB9⟩))
  -- region 7
  have hB10' := hB9.trans (hB10.mono hB9.size)
  have hA10 := HA8.out.next hB10'
  have HC2 := Lib.hid (Kd.C_below HC2.out hB10')
  have HC5 := Lib.hid (Kd.C_below HC5.out hB10')
  have HC8 := Lib.hid (Kd.C_below HC8.out hB10')
  have m0 := sm0 W10 (HGA.out _ hA10)
  have HA10 := Lib.hid hA10
  clear pn hA10 hB10' hB10 hB9 t3
  go_upto_region 8 with (go_at_call 10; refine m0.mono ?_; rintro e W11 ⟨hB11, X16, x16, rfl⟩)
  -- region 8
  have hA11 := HA10.out.next hB11
  have HC2 := Lib.hid (Kd.C_below HC2.out hB11)
  have HC5 := Lib.hid (Kd.C_below HC5.out hB11)
  have HC8 := Lib.hid (Kd.C_below HC8.out hB11)
  have u1 := su1 hA11 (HGA.out _ hA11)
  have HA11 := Lib.hid hA11
  clear m0 hA11 hB11
  go_upto_region 9 with (go_at_call 14; refine u1.mono ?_; rintro e W12 ⟨hB12, X18, x18, rfl, C18⟩)
  have hS0 : Res w b X2 X5 X8 X18 W12 := ⟨HA11.out.next hB12, Kd.C_below HC2.out hB12, Kd.C_below HC5.out hB12, Kd.C_below HC8.out hB12, C18⟩
  have hS13 := hS0.drew
  have HSK := Lib.hid hS13
  clear u1 hB12 C18 HC2 HC5 HC8 hS0
  generalize hWd : W12.drew = W13 at HSK hS13
  -- region 9
  refine region_hand (S := Res w b X2 X5 X8 X18) 52 (by kernel_rfl) (by kernel_rfl) (fun hQ => ?_)
  rw [hWd]
  clear hWd
  refine wpAnyH_takeTo (i := 0) (v := .int .i64 0) (t := some 73) rfl (by kernel_rfl) (by kernel_rfl) (by kernel_rfl) hQ (.inl ⟨by kernel_rfl, fun W _ => by kernel_rfl⟩) hS13 (by kernel_rfl) ?_
  (try simp only [Act.put, List.setIfInBounds_toArray, List.set_cons_zero, List.set_cons_succ])
  refine wpAnyH_takeTo (i := 1) (v := .bool false) (t := some 74) rfl (by kernel_rfl) (by kernel_rfl) (by kernel_rfl) hQ (.inl ⟨by kernel_rfl, fun W _ => by kernel_rfl⟩) hS13 (by kernel_rfl) ?_
  (try simp only [Act.put, List.setIfInBounds_toArray, List.set_cons_zero, List.set_cons_succ])
  refine wpAnyH_takeTo (i := 2) (v := .bool false) (t := some 75) rfl (by kernel_rfl) (by kernel_rfl) (by kernel_rfl) hQ (.inl ⟨by kernel_rfl, fun W _ => by kernel_rfl⟩) hS13 (by kernel_rfl) ?_
  (try simp only [Act.put, List.setIfInBounds_toArray, List.set_cons_zero, List.set_cons_succ])
  refine wpAnyH_takeTo (i := 3) (v := .int .i64 0) (t := some 76) rfl (by kernel_rfl) (by kernel_rfl) (by kernel_rfl) hQ (.inl ⟨by kernel_rfl, fun W _ => by kernel_rfl⟩) hS13 (by kernel_rfl) ?_
  (try simp only [Act.put, List.setIfInBounds_toArray, List.set_cons_zero, List.set_cons_succ])
  refine wpAnyH_takeTo (i := 4) (v := .bool false) (t := some 77) rfl (by kernel_rfl) (by kernel_rfl) (by kernel_rfl) hQ (.inl ⟨by kernel_rfl, fun W _ => by kernel_rfl⟩) hS13 (by kernel_rfl) ?_
  (try simp only [Act.put, List.setIfInBounds_toArray, List.set_cons_zero, List.set_cons_succ])
  refine wpAnyH_takeTo (i := 5) (v := .bool false) (t := some 78) rfl (by kernel_rfl) (by kernel_rfl) (by kernel_rfl) hQ (.inl ⟨by kernel_rfl, fun W _ => by kernel_rfl⟩) hS13 (by kernel_rfl) ?_
  (try simp only [Act.put, List.setIfInBounds_toArray, List.set_cons_zero, List.set_cons_succ])
  refine wpAnyH_takeTo (i := 6) (v := .bool false) (t := some 79) rfl (by kernel_rfl) (by kernel_rfl) (by kernel_rfl) hQ (.inl ⟨by kernel_rfl, fun W _ => by kernel_rfl⟩) hS13 (by kernel_rfl) ?_
  (try simp only [Act.put, List.setIfInBounds_toArray, List.set_cons_zero, List.set_cons_succ])
  refine wpAnyH_takeTo (i := 7) (v := .int .i64 0) (t := some 80) rfl (by kernel_rfl) (by kernel_rfl) (by kernel_rfl) hQ (.inl ⟨by kernel_rfl, fun W _ => by kernel_rfl⟩) hS13 (by kernel_rfl) ?_
  (try simp only [Act.put, List.setIfInBounds_toArray, List.set_cons_zero, List.set_cons_succ])
  refine wpAnyH_takeTo (i := 8) (v := .bool false) (t := some 81) rfl (by kernel_rfl) (by kernel_rfl) (by kernel_rfl) hQ (.inl ⟨by kernel_rfl, fun W _ => by kernel_rfl⟩) hS13 (by kernel_rfl) ?_
  (try simp only [Act.put, List.setIfInBounds_toArray, List.set_cons_zero, List.set_cons_succ])
  refine wpAnyH_takeTo (i := 9) (v := .bool false) (t := some 82) rfl (by kernel_rfl) (by kernel_rfl) (by kernel_rfl) hQ (.inl ⟨by kernel_rfl, fun W _ => by kernel_rfl⟩) hS13 (by kernel_rfl) ?_
  (try simp only [Act.put, List.setIfInBounds_toArray, List.set_cons_zero, List.set_cons_succ])
  refine wpAnyH_takeTo (i := 10) (v := .bool false) (t := some 83) rfl (by kernel_rfl) (by kernel_rfl) (by kernel_rfl) hQ (.inl ⟨by kernel_rfl, fun W _ => by kernel_rfl⟩) hS13 (by kernel_rfl) ?_
  (try simp only [Act.put, List.setIfInBounds_toArray, List.set_cons_zero, List.set_cons_succ])
  refine wpAnyH_takeTo (i := 11) (v := .int .i64 80) (t := some 84) rfl (by kernel_rfl) (by kernel_rfl) (by kernel_rfl) hQ (.inl ⟨by kernel_rfl, fun W _ => by kernel_rfl⟩) hS13 (by kernel_rfl) ?_
  (try simp only [Act.put, List.setIfInBounds_toArray, List.set_cons_zero, List.set_cons_succ])
  refine wpAnyH_takeTo (i := 12) (v := .agg cz) (t := some 85) rfl (by kernel_rfl) (by kernel_rfl) (by kernel_rfl) hQ (.inl ⟨by kernel_rfl, fun W _ => by rw [← hcz]; kernel_rfl⟩) hS13 (by kernel_rfl) ?_
  (try simp only [Act.put, List.setIfInBounds_toArray, List.set_cons_zero, List.set_cons_succ])
  refine wpAnyH_call 13 _ (by kernel_rfl) rfl (by kernel_rfl) (some 86) (by kernel_rfl) 18 #[.agg cz] (by kernel_rfl) _ (sck0 hcz W13 (HGA.out _ hS13.all)) (fun e W14 hR => ?_)
  obtain ⟨rfl, hB14⟩ := hR
  have hS14 := hS13.next hB14
  refine ⟨_, rfl, hS14, ?_⟩
  (try simp only [Act.put, List.setIfInBounds_toArray, List.set_cons_zero, List.set_cons_succ])
  refine wpAnyH_takeTo (i := 14) (v := .bool false) (t := some 87) rfl (by kernel_rfl) (by kernel_rfl) (by kernel_rfl) hQ (.inl ⟨by kernel_rfl, fun W _ => by kernel_rfl⟩) hS14 (by kernel_rfl) ?_
  (try simp only [Act.put, List.setIfInBounds_toArray, List.set_cons_zero, List.set_cons_succ])
  refine wpAnyH_takeTo (i := 15) (v := .bool false) (t := some 88) rfl (by kernel_rfl) (by kernel_rfl) (by kernel_rfl) hQ (.inl ⟨by kernel_rfl, fun W _ => by kernel_rfl⟩) hS14 (by kernel_rfl) ?_
  (try simp only [Act.put, List.setIfInBounds_toArray, List.set_cons_zero, List.set_cons_succ])
  refine wpAnyH_takeTo (i := 16) (v := .bool false) (t := some 89) rfl (by kernel_rfl) (by kernel_rfl) (by kernel_rfl) hQ (.inl ⟨by kernel_rfl, fun W _ => by kernel_rfl⟩) hS14 (by kernel_rfl) ?_
  (try simp only [Act.put, List.setIfInBounds_toArray, List.set_cons_zero, List.set_cons_succ])
  refine wpAnyH_takeTo (i := 17) (v := .int .i64 80) (t := some 90) rfl (by kernel_rfl) (by kernel_rfl) (by kernel_rfl) hQ (.inl ⟨by kernel_rfl, fun W _ => by kernel_rfl⟩) hS14 (by kernel_rfl) ?_
  (try simp only [Act.put, List.setIfInBounds_toArray, List.set_cons_zero, List.set_cons_succ])
  refine wpAnyH_takeTo (i := 18) (v := .bool false) (t := some 91) rfl (by kernel_rfl) (by kernel_rfl) (by kernel_rfl) hQ (.inl ⟨by kernel_rfl, fun W _ => by kernel_rfl⟩) hS14 (by kernel_rfl) ?_
  (try simp only [Act.put, List.setIfInBounds_toArray, List.set_cons_zero, List.set_cons_succ])
  refine wpAnyH_takeTo (i := 19) (v := .bool false) (t := some 92) rfl (by kernel_rfl) (by kernel_rfl) (by kernel_rfl) hQ (.inl ⟨by kernel_rfl, fun W _ => by kernel_rfl⟩) hS14 (by kernel_rfl) ?_
  (try simp only [Act.put, List.setIfInBounds_toArray, List.set_cons_zero, List.set_cons_succ])
  refine wpAnyH_takeTo (i := 20) (v := .bool false) (t := some 93) rfl (by kernel_rfl) (by kernel_rfl) (by kernel_rfl) hQ (.inl ⟨by kernel_rfl, fun W _ => by kernel_rfl⟩) hS14 (by kernel_rfl) ?_
  (try simp only [Act.put, List.setIfInBounds_toArray, List.set_cons_zero, List.set_cons_succ])
  refine wpAnyH_takeTo (i := 21) (v := .int .i64 390) (t := some 94) rfl (by kernel_rfl) (by kernel_rfl) (by kernel_rfl) hQ (.inl ⟨by kernel_rfl, fun W _ => by kernel_rfl⟩) hS14 (by kernel_rfl) ?_
  (try simp only [Act.put, List.setIfInBounds_toArray, List.set_cons_zero, List.set_cons_succ])
  refine wpAnyH_takeTo (i := 22) (v := .bool false) (t := some 95) rfl (by kernel_rfl) (by kernel_rfl) (by kernel_rfl) hQ (.inl ⟨by kernel_rfl, fun W _ => by kernel_rfl⟩) hS14 (by kernel_rfl) ?_
  (try simp only [Act.put, List.setIfInBounds_toArray, List.set_cons_zero, List.set_cons_succ])
  refine wpAnyH_takeTo (i := 23) (v := .bool false) (t := some 96) rfl (by kernel_rfl) (by kernel_rfl) (by kernel_rfl) hQ (.inl ⟨by kernel_rfl, fun W _ => by kernel_rfl⟩) hS14 (by kernel_rfl) ?_
  (try simp only [Act.put, List.setIfInBounds_toArray, List.set_cons_zero, List.set_cons_succ])
  refine wpAnyH_takeTo (i := 24) (v := .bool false) (t := some 97) rfl (by kernel_rfl) (by kernel_rfl) (by kernel_rfl) hQ (.inl ⟨by kernel_rfl, fun W _ => by kernel_rfl⟩) hS14 (by kernel_rfl) ?_
  (try simp only [Act.put, List.setIfInBounds_toArray, List.set_cons_zero, List.set_cons_succ])
  refine wpAnyH_takeTo (i := 25) (v := .int .i64 0) (t := some 98) rfl (by kernel_rfl) (by kernel_rfl) (by kernel_rfl) hQ (.inl ⟨by kernel_rfl, fun W _ => by kernel_rfl⟩) hS14 (by kernel_rfl) ?_
  (try simp only [Act.put, List.setIfInBounds_toArray, List.set_cons_zero, List.set_cons_succ])
  refine wpAnyH_takeTo (i := 26) (v := .bool false) (t := some 99) rfl (by kernel_rfl) (by kernel_rfl) (by kernel_rfl) hQ (.inl ⟨by kernel_rfl, fun W _ => by kernel_rfl⟩) hS14 (by kernel_rfl) ?_
  (try simp only [Act.put, List.setIfInBounds_toArray, List.set_cons_zero, List.set_cons_succ])
  refine wpAnyH_takeTo (i := 27) (v := .bool false) (t := some 100) rfl (by kernel_rfl) (by kernel_rfl) (by kernel_rfl) hQ (.inl ⟨by kernel_rfl, fun W _ => by kernel_rfl⟩) hS14 (by kernel_rfl) ?_
  (try simp only [Act.put, List.setIfInBounds_toArray, List.set_cons_zero, List.set_cons_succ])
  refine wpAnyH_takeTo (i := 28) (v := .bool false) (t := some 101) rfl (by kernel_rfl) (by kernel_rfl) (by kernel_rfl) hQ (.inl ⟨by kernel_rfl, fun W _ => by kernel_rfl⟩) hS14 (by kernel_rfl) ?_
  (try simp only [Act.put, List.setIfInBounds_toArray, List.set_cons_zero, List.set_cons_succ])
  refine wpAnyH_takeTo (i := 29) (v := .int .i64 0) (t := some 102) rfl (by kernel_rfl) (by kernel_rfl) (by kernel_rfl) hQ (.inl ⟨by kernel_rfl, fun W _ => by kernel_rfl⟩) hS14 (by kernel_rfl) ?_
  (try simp only [Act.put, List.setIfInBounds_toArray, List.set_cons_zero, List.set_cons_succ])
  refine wpAnyH_takeTo (i := 30) (v := .bool false) (t := some 103) rfl (by kernel_rfl) (by kernel_rfl) (by kernel_rfl) hQ (.inl ⟨by kernel_rfl, fun W _ => by kernel_rfl⟩) hS14 (by kernel_rfl) ?_
  (try simp only [Act.put, List.setIfInBounds_toArray, List.set_cons_zero, List.set_cons_succ])
  refine wpAnyH_takeTo (i := 31) (v := .bool false) (t := some 104) rfl (by kernel_rfl) (by kernel_rfl) (by kernel_rfl) hQ (.inl ⟨by kernel_rfl, fun W _ => by kernel_rfl⟩) hS14 (by kernel_rfl) ?_
  (try simp only [Act.put, List.setIfInBounds_toArray, List.set_cons_zero, List.set_cons_succ])
  refine wpAnyH_takeTo (i := 32) (v := .bool false) (t := some 105) rfl (by kernel_rfl) (by kernel_rfl) (by kernel_rfl) hQ (.inl ⟨by kernel_rfl, fun W _ => by kernel_rfl⟩) hS14 (by kernel_rfl) ?_
  (try simp only [Act.put, List.setIfInBounds_toArray, List.set_cons_zero, List.set_cons_succ])
  refine wpAnyH_call 33 _ (by kernel_rfl) rfl (by kernel_rfl) (some 106) (by kernel_rfl) 9 #[.slice none 0 0] (by kernel_rfl) _ (sc9n W14 (HGA.out _ hS14.all)) (fun e W15 hR => ?_)
  obtain ⟨rfl, hB15⟩ := hR
  have hS15 := hS14.next hB15
  refine ⟨_, rfl, hS15, ?_⟩
  (try simp only [Act.put, List.setIfInBounds_toArray, List.set_cons_zero, List.set_cons_succ])
  refine wpAnyH_takeTo (i := 34) (v := .bool false) (t := some 107) rfl (by kernel_rfl) (by kernel_rfl) (by kernel_rfl) hQ (.inl ⟨by kernel_rfl, fun W _ => by kernel_rfl⟩) hS15 (by kernel_rfl) ?_
  (try simp only [Act.put, List.setIfInBounds_toArray, List.set_cons_zero, List.set_cons_succ])
  refine wpAnyH_takeTo (i := 35) (v := .bool false) (t := some 108) rfl (by kernel_rfl) (by kernel_rfl) (by kernel_rfl) hQ (.inl ⟨by kernel_rfl, fun W _ => by kernel_rfl⟩) hS15 (by kernel_rfl) ?_
  (try simp only [Act.put, List.setIfInBounds_toArray, List.set_cons_zero, List.set_cons_succ])
  refine wpAnyH_takeTo (i := 36) (v := .bool false) (t := some 109) rfl (by kernel_rfl) (by kernel_rfl) (by kernel_rfl) hQ (.inl ⟨by kernel_rfl, fun W _ => by kernel_rfl⟩) hS15 (by kernel_rfl) ?_
  (try simp only [Act.put, List.setIfInBounds_toArray, List.set_cons_zero, List.set_cons_succ])
  refine wpAnyH_takeTo (i := 37) (v := .slice (some ⟨b, 0, none⟩) 3 3) (t := some 110) rfl (by kernel_rfl) (by kernel_rfl) (by kernel_rfl) hQ (.inl ⟨by kernel_rfl, fun W _ => by kernel_rfl⟩) hS15 (by kernel_rfl) ?_
  (try simp only [Act.put, List.setIfInBounds_toArray, List.set_cons_zero, List.set_cons_succ])
  refine wpAnyH_call 38 _ (by kernel_rfl) rfl (by kernel_rfl) (some 111) (by kernel_rfl) 9 #[.slice (some ⟨b, 0, none⟩) 3 3] (by kernel_rfl) _ (sc9a hS15.all (HGA.out _ hS15.all)) (fun e W16 hR => ?_)
  obtain ⟨rfl, hB16⟩ := hR
  have hS16 := hS15.next hB16
  refine ⟨_, rfl, hS16, ?_⟩
  (try simp only [Act.put, List.setIfInBounds_toArray, List.set_cons_zero, List.set_cons_succ])
  refine wpAnyH_takeTo (i := 39) (v := .bool false) (t := some 112) rfl (by kernel_rfl) (by kernel_rfl) (by kernel_rfl) hQ (.inl ⟨by kernel_rfl, fun W _ => by kernel_rfl⟩) hS16 (by kernel_rfl) ?_
  (try simp only [Act.put, List.setIfInBounds_toArray, List.set_cons_zero, List.set_cons_succ])
  refine wpAnyH_takeTo (i := 40) (v := .bool false) (t := some 113) rfl (by kernel_rfl) (by kernel_rfl) (by kernel_rfl) hQ (.inl ⟨by kernel_rfl, fun W _ => by kernel_rfl⟩) hS16 (by kernel_rfl) ?_
  (try simp only [Act.put, List.setIfInBounds_toArray, List.set_cons_zero, List.set_cons_succ])
  refine wpAnyH_takeTo (i := 41) (v := .bool false) (t := some 114) rfl (by kernel_rfl) (by kernel_rfl) (by kernel_rfl) hQ (.inl ⟨by kernel_rfl, fun W _ => by kernel_rfl⟩) hS16 (by kernel_rfl) ?_
  (try simp only [Act.put, List.setIfInBounds_toArray, List.set_cons_zero, List.set_cons_succ])
  refine wpAnyH_takeTo (i := 42) (v := .slice (some ⟨b, 0, none⟩) 3 3) (t := some 115) rfl (by kernel_rfl) (by kernel_rfl) (by kernel_rfl) hQ (.inl ⟨by kernel_rfl, fun W _ => by kernel_rfl⟩) hS16 (by kernel_rfl) ?_
  (try simp only [Act.put, List.setIfInBounds_toArray, List.set_cons_zero, List.set_cons_succ])
  refine wpAnyH_takeTo (i := 43) (v := .pointer (some ⟨b, 62, none⟩)) (t := some 116) rfl (by kernel_rfl) (by kernel_rfl) (by kernel_rfl) hQ (.inl ⟨by kernel_rfl, fun W _ => by kernel_rfl⟩) hS16 (by kernel_rfl) ?_
  (try simp only [Act.put, List.setIfInBounds_toArray, List.set_cons_zero, List.set_cons_succ])
  refine wpAnyH_takeTo (i := 44) (v := .agg c2) (t := some 117) rfl (by kernel_rfl) (by kernel_rfl) (by kernel_rfl) hQ (yieldsIf_load (by kernel_rfl) 48 (.tmp 116) rfl ⟨b, 62, none⟩ (by kernel_rfl) (cells48 5 0 2 9 3) _ (fun W hW => hW.all.at_ 2 _ rfl) Tryz.underlying48 rfl info48 _ hc2) hS16 (by kernel_rfl) ?_
  (try simp only [Act.put, List.setIfInBounds_toArray, List.set_cons_zero, List.set_cons_succ])
  refine wpAnyH_takeTo (i := 45) (v := .slice (some ⟨b, 0, none⟩) 3 3) (t := some 118) rfl (by kernel_rfl) (by kernel_rfl) (by kernel_rfl) hQ (.inl ⟨by kernel_rfl, fun W _ => by kernel_rfl⟩) hS16 (by kernel_rfl) ?_
  (try simp only [Act.put, List.setIfInBounds_toArray, List.set_cons_zero, List.set_cons_succ])
  refine wpAnyH_takeTo (i := 46) (v := .pointer (some ⟨b, 0, none⟩)) (t := some 119) rfl (by kernel_rfl) (by kernel_rfl) (by kernel_rfl) hQ (.inl ⟨by kernel_rfl, fun W _ => by kernel_rfl⟩) hS16 (by kernel_rfl) ?_
  (try simp only [Act.put, List.setIfInBounds_toArray, List.set_cons_zero, List.set_cons_succ])
  refine wpAnyH_takeTo (i := 47) (v := .agg c0) (t := some 120) rfl (by kernel_rfl) (by kernel_rfl) (by kernel_rfl) hQ (yieldsIf_load (by kernel_rfl) 48 (.tmp 119) rfl ⟨b, 0, none⟩ (by kernel_rfl) (cells48 2 0 1 9 3) _ (fun W hW => hW.all.at_ 0 _ rfl) Tryz.underlying48 rfl info48 _ hc0) hS16 (by kernel_rfl) ?_
  (try simp only [Act.put, List.setIfInBounds_toArray, List.set_cons_zero, List.set_cons_succ])
  refine wpAnyH_step 48 _ (by kernel_rfl) rfl (by kernel_rfl) (fun K hK => wp_build2 _ _ rfl c2 c0 (by kernel_rfl) (by kernel_rfl) hc2 hc0 (some 121) (by kernel_rfl) (hK _ _ ⟨hS16.alloc _, ?_⟩))
  (try simp only [Act.put, List.setIfInBounds_toArray, List.set_cons_zero, List.set_cons_succ])
  have hS17 := hS16.alloc (.cells (L2.map (·.2)).flatten.toArray 48)
  have hg2 := heap_alloc_new W16 (.cells (L2.map (·.2)).flatten.toArray 48)
  generalize W16.alloc (.cells (L2.map (·.2)).flatten.toArray 48) = W17 at hS17 hg2 ⊢
  generalize W16.heap.size = g at hg2 ⊢
  refine wpAnyH_call 49 _ (by kernel_rfl) rfl (by kernel_rfl) (some 122) (by kernel_rfl) 9 #[.slice (some ⟨g, 0, none⟩) 2 2] (by kernel_rfl) _ (sc92 hg2 (HGA.out _ hS17.all)) (fun e W18 hR => ?_)
  obtain ⟨rfl, hB18⟩ := hR
  have hS18 := hS17.next hB18
  refine ⟨_, rfl, hS18, ?_⟩
  (try simp only [Act.put, List.setIfInBounds_toArray, List.set_cons_zero, List.set_cons_succ])
  refine wpAnyH_takeTo (i := 50) (v := .bool false) (t := some 123) rfl (by kernel_rfl) (by kernel_rfl) (by kernel_rfl) hQ (.inl ⟨by kernel_rfl, fun W _ => by kernel_rfl⟩) hS18 (by kernel_rfl) ?_
  (try simp only [Act.put, List.setIfInBounds_toArray, List.set_cons_zero, List.set_cons_succ])
  refine wpAnyH_takeTo (i := 51) (v := .bool false) (t := some 124) rfl (by kernel_rfl) (by kernel_rfl) (by kernel_rfl) hQ (.inl ⟨by kernel_rfl, fun W _ => by kernel_rfl⟩) hS18 (by kernel_rfl) ?_
  (try simp only [Act.put, List.setIfInBounds_toArray, List.set_cons_zero, List.set_cons_succ])
  refine wpAnyH_done (by kernel_rfl) (NoPanic.normal ?_) _
  clear hQ
  go_upto_region 11 with (fail)
  have HS9 := Lib.hid hS18.drew
  have hS19 := hS18.drew
  generalize hWd : W18.drew = W19 at HS9 hS19
  -- region 11
  refine region_hand (S := Res w b X2 X5 X8 X18) 47 (by kernel_rfl) (by kernel_rfl) (fun hQ => ?_)
  rw [hWd]
  clear hWd
  refine wpAnyH_takeTo (i := 0) (v := .slice X2 3 x2) (t := some 125) rfl (by kernel_rfl) (by kernel_rfl) (by kernel_rfl) hQ (.inl ⟨by kernel_rfl, fun W _ => by kernel_rfl⟩) hS19 (by kernel_rfl) ?_
  (try simp only [Act.put, List.setIfInBounds_toArray, List.set_cons_zero, List.set_cons_succ])
  refine wpAnyH_takeTo (i := 1) (v := .slice (some ⟨b, 0, none⟩) 3 3) (t := some 126) rfl (by kernel_rfl) (by kernel_rfl) (by kernel_rfl) hQ (.inl ⟨by kernel_rfl, fun W _ => by kernel_rfl⟩) hS19 (by kernel_rfl) ?_
  (try simp only [Act.put, List.setIfInBounds_toArray, List.set_cons_zero, List.set_cons_succ])
  refine wpAnyH_call 2 _ (by kernel_rfl) rfl (by kernel_rfl) (some 127) (by kernel_rfl) 12 #[.slice X2 3 x2, .slice (some ⟨b, 0, none⟩) 3 3] (by kernel_rfl) _ (ss3 hS19.c2 hS19.all) (fun e W20 hR => ?_)
  obtain ⟨rfl, hB20⟩ := hR
  have hS20 := hS19.next hB20
  refine ⟨_, rfl, hS20, ?_⟩
  (try simp only [Act.put, List.setIfInBounds_toArray, List.set_cons_zero, List.set_cons_succ])
  refine wpAnyH_takeTo (i := 3) (v := .bool true) (t := some 128) rfl (by kernel_rfl) (by kernel_rfl) (by kernel_rfl) hQ (.inl ⟨by kernel_rfl, fun W _ => by kernel_rfl⟩) hS20 (by kernel_rfl) ?_
  (try simp only [Act.put, List.setIfInBounds_toArray, List.set_cons_zero, List.set_cons_succ])
  refine wpAnyH_takeTo (i := 4) (v := .int .i64 2) (t := some 129) rfl (by kernel_rfl) (by kernel_rfl) (by kernel_rfl) hQ (.inl ⟨by kernel_rfl, fun W _ => by kernel_rfl⟩) hS20 (by kernel_rfl) ?_
  (try simp only [Act.put, List.setIfInBounds_toArray, List.set_cons_zero, List.set_cons_succ])
  refine wpAnyH_takeTo (i := 5) (v := .bool true) (t := some 130) rfl (by kernel_rfl) (by kernel_rfl) (by kernel_rfl) hQ (.inl ⟨by kernel_rfl, fun W _ => by kernel_rfl⟩) hS20 (by kernel_rfl) ?_
  (try simp only [Act.put, List.setIfInBounds_toArray, List.set_cons_zero, List.set_cons_succ])
  refine wpAnyH_takeTo (i := 6) (v := .bool true) (t := some 131) rfl (by kernel_rfl) (by kernel_rfl) (by kernel_rfl) hQ (.inl ⟨by kernel_rfl, fun W _ => by kernel_rfl⟩) hS20 (by kernel_rfl) ?_
  (try simp only [Act.put, List.setIfInBounds_toArray, List.set_cons_zero, List.set_cons_succ])
  refine wpAnyH_takeTo (i := 7) (v := .bool true) (t := some 132) rfl (by kernel_rfl) (by kernel_rfl) (by kernel_rfl) hQ (.inl ⟨by kernel_rfl, fun W _ => by kernel_rfl⟩) hS20 (by kernel_rfl) ?_
  (try simp only [Act.put, List.setIfInBounds_toArray, List.set_cons_zero, List.set_cons_succ])
  refine wpAnyH_takeTo (i := 8) (v := .slice X5 3 x5) (t := some 133) rfl (by kernel_rfl) (by kernel_rfl) (by kernel_rfl) hQ (.inl ⟨by kernel_rfl, fun W _ => by kernel_rfl⟩) hS20 (by kernel_rfl) ?_
  (try simp only [Act.put, List.setIfInBounds_toArray, List.set_cons_zero, List.set_cons_succ])
  refine wpAnyH_takeTo (i := 9) (v := .slice (some ⟨b, 0, none⟩) 3 3) (t := some 134) rfl (by kernel_rfl) (by kernel_rfl) (by kernel_rfl) hQ (.inl ⟨by kernel_rfl, fun W _ => by kernel_rfl⟩) hS20 (by kernel_rfl) ?_
  (try simp only [Act.put, List.setIfInBounds_toArray, List.set_cons_zero, List.set_cons_succ])
  refine wpAnyH_call 10 _ (by kernel_rfl) rfl (by kernel_rfl) (some 135) (by kernel_rfl) 12 #[.slice X5 3 x5, .slice (some ⟨b, 0, none⟩) 3 3] (by kernel_rfl) _ (ss3 hS20.c5 hS20.all) (fun e W21 hR => ?_)
  obtain ⟨rfl, hB21⟩ := hR
  have hS21 := hS20.next hB21
  refine ⟨_, rfl, hS21, ?_⟩
  (try simp only [Act.put, List.setIfInBounds_toArray, List.set_cons_zero, List.set_cons_succ])
  refine wpAnyH_takeTo (i := 11) (v := .bool true) (t := some 136) rfl (by kernel_rfl) (by kernel_rfl) (by kernel_rfl) hQ (.inl ⟨by kernel_rfl, fun W _ => by kernel_rfl⟩) hS21 (by kernel_rfl) ?_
  (try simp only [Act.put, List.setIfInBounds_toArray, List.set_cons_zero, List.set_cons_succ])
  refine wpAnyH_takeTo (i := 12) (v := .bool true) (t := some 137) rfl (by kernel_rfl) (by kernel_rfl) (by kernel_rfl) hQ (.inl ⟨by kernel_rfl, fun W _ => by kernel_rfl⟩) hS21 (by kernel_rfl) ?_
  (try simp only [Act.put, List.setIfInBounds_toArray, List.set_cons_zero, List.set_cons_succ])
  refine wpAnyH_takeTo (i := 13) (v := .int .i64 0) (t := some 138) rfl (by kernel_rfl) (by kernel_rfl) (by kernel_rfl) hQ (.inl ⟨by kernel_rfl, fun W _ => by kernel_rfl⟩) hS21 (by kernel_rfl) ?_
  (try simp only [Act.put, List.setIfInBounds_toArray, List.set_cons_zero, List.set_cons_succ])
  refine wpAnyH_takeTo (i := 14) (v := .bool true) (t := some 139) rfl (by kernel_rfl) (by kernel_rfl) (by kernel_rfl) hQ (.inl ⟨by kernel_rfl, fun W _ => by kernel_rfl⟩) hS21 (by kernel_rfl) ?_
  (try simp only [Act.put, List.setIfInBounds_toArray, List.set_cons_zero, List.set_cons_succ])
  refine wpAnyH_takeTo (i := 15) (v := .bool true) (t := some 140) rfl (by kernel_rfl) (by kernel_rfl) (by kernel_rfl) hQ (.inl ⟨by kernel_rfl, fun W _ => by kernel_rfl⟩) hS21 (by kernel_rfl) ?_
  (try simp only [Act.put, List.setIfInBounds_toArray, List.set_cons_zero, List.set_cons_succ])
  refine wpAnyH_takeTo (i := 16) (v := .bool true) (t := some 141) rfl (by kernel_rfl) (by kernel_rfl) (by kernel_rfl) hQ (.inl ⟨by kernel_rfl, fun W _ => by kernel_rfl⟩) hS21 (by kernel_rfl) ?_
  (try simp only [Act.put, List.setIfInBounds_toArray, List.set_cons_zero, List.set_cons_succ])
  refine wpAnyH_takeTo (i := 17) (v := .slice X8 3 x8) (t := some 142) rfl (by kernel_rfl) (by kernel_rfl) (by kernel_rfl) hQ (.inl ⟨by kernel_rfl, fun W _ => by kernel_rfl⟩) hS21 (by kernel_rfl) ?_
  (try simp only [Act.put, List.setIfInBounds_toArray, List.set_cons_zero, List.set_cons_succ])
  refine wpAnyH_takeTo (i := 18) (v := .slice (some ⟨b, 0, none⟩) 3 3) (t := some 143) rfl (by kernel_rfl) (by kernel_rfl) (by kernel_rfl) hQ (.inl ⟨by kernel_rfl, fun W _ => by kernel_rfl⟩) hS21 (by kernel_rfl) ?_
  (try simp only [Act.put, List.setIfInBounds_toArray, List.set_cons_zero, List.set_cons_succ])
  refine wpAnyH_call 19 _ (by kernel_rfl) rfl (by kernel_rfl) (some 144) (by kernel_rfl) 12 #[.slice X8 3 x8, .slice (some ⟨b, 0, none⟩) 3 3] (by kernel_rfl) _ (ss3 hS21.c8 hS21.all) (fun e W22 hR => ?_)
  obtain ⟨rfl, hB22⟩ := hR
  have hS22 := hS21.next hB22
  refine ⟨_, rfl, hS22, ?_⟩
  (try simp only [Act.put, List.setIfInBounds_toArray, List.set_cons_zero, List.set_cons_succ])
  refine wpAnyH_takeTo (i := 20) (v := .bool true) (t := some 145) rfl (by kernel_rfl) (by kernel_rfl) (by kernel_rfl) hQ (.inl ⟨by kernel_rfl, fun W _ => by kernel_rfl⟩) hS22 (by kernel_rfl) ?_
  (try simp only [Act.put, List.setIfInBounds_toArray, List.set_cons_zero, List.set_cons_succ])
  refine wpAnyH_takeTo (i := 21) (v := .bool true) (t := some 146) rfl (by kernel_rfl) (by kernel_rfl) (by kernel_rfl) hQ (.inl ⟨by kernel_rfl, fun W _ => by kernel_rfl⟩) hS22 (by kernel_rfl) ?_
  (try simp only [Act.put, List.setIfInBounds_toArray, List.set_cons_zero, List.set_cons_succ])
  refine wpAnyH_takeTo (i := 22) (v := .slice X16 0 x16) (t := some 147) rfl (by kernel_rfl) (by kernel_rfl) (by kernel_rfl) hQ (.inl ⟨by kernel_rfl, fun W _ => by kernel_rfl⟩) hS22 (by kernel_rfl) ?_
  (try simp only [Act.put, List.setIfInBounds_toArray, List.set_cons_zero, List.set_cons_succ])
  refine wpAnyH_takeTo (i := 23) (v := .int .i64 0) (t := some 148) rfl (by kernel_rfl) (by kernel_rfl) (by kernel_rfl) hQ (.inl ⟨by kernel_rfl, fun W _ => by kernel_rfl⟩) hS22 (by kernel_rfl) ?_
  (try simp only [Act.put, List.setIfInBounds_toArray, List.set_cons_zero, List.set_cons_succ])
  refine wpAnyH_takeTo (i := 24) (v := .bool true) (t := some 149) rfl (by kernel_rfl) (by kernel_rfl) (by kernel_rfl) hQ (.inl ⟨by kernel_rfl, fun W _ => by kernel_rfl⟩) hS22 (by kernel_rfl) ?_
  (try simp only [Act.put, List.setIfInBounds_toArray, List.set_cons_zero, List.set_cons_succ])
  refine wpAnyH_takeTo (i := 25) (v := .bool true) (t := some 150) rfl (by kernel_rfl) (by kernel_rfl) (by kernel_rfl) hQ (.inl ⟨by kernel_rfl, fun W _ => by kernel_rfl⟩) hS22 (by kernel_rfl) ?_
  (try simp only [Act.put, List.setIfInBounds_toArray, List.set_cons_zero, List.set_cons_succ])
  refine wpAnyH_takeTo (i := 26) (v := .bool true) (t := some 151) rfl (by kernel_rfl) (by kernel_rfl) (by kernel_rfl) hQ (.inl ⟨by kernel_rfl, fun W _ => by kernel_rfl⟩) hS22 (by kernel_rfl) ?_
  (try simp only [Act.put, List.setIfInBounds_toArray, List.set_cons_zero, List.set_cons_succ])
  refine wpAnyH_takeTo (i := 27) (v := .slice X18 1 x18) (t := some 152) rfl (by kernel_rfl) (by kernel_rfl) (by kernel_rfl) hQ (.inl ⟨by kernel_rfl, fun W _ => by kernel_rfl⟩) hS22 (by kernel_rfl) ?_
  (try simp only [Act.put, List.setIfInBounds_toArray, List.set_cons_zero, List.set_cons_succ])
  refine wpAnyH_takeTo (i := 28) (v := .slice (some ⟨b, 0, none⟩) 3 3) (t := some 153) rfl (by kernel_rfl) (by kernel_rfl) (by kernel_rfl) hQ (.inl ⟨by kernel_rfl, fun W _ => by kernel_rfl⟩) hS22 (by kernel_rfl) ?_
  (try simp only [Act.put, List.setIfInBounds_toArray, List.set_cons_zero, List.set_cons_succ])
  refine wpAnyH_takeTo (i := 29) (v := .slice (some ⟨b, 0, none⟩) 1 3) (t := some 154) rfl (by kernel_rfl) (by kernel_rfl) (by kernel_rfl) hQ (.inl ⟨by kernel_rfl, fun W _ => by kernel_rfl⟩) hS22 (by kernel_rfl) ?_
  (try simp only [Act.put, List.setIfInBounds_toArray, List.set_cons_zero, List.set_cons_succ])
  refine wpAnyH_call 30 _ (by kernel_rfl) rfl (by kernel_rfl) (some 155) (by kernel_rfl) 12 #[.slice X18 1 x18, .slice (some ⟨b, 0, none⟩) 1 3] (by kernel_rfl) _ (ss1 hS22.c18 hS22.all) (fun e W23 hR => ?_)
  obtain ⟨rfl, hB23⟩ := hR
  have hS23 := hS22.next hB23
  refine ⟨_, rfl, hS23, ?_⟩
  (try simp only [Act.put, List.setIfInBounds_toArray, List.set_cons_zero, List.set_cons_succ])
  refine wpAnyH_takeTo (i := 31) (v := .bool true) (t := some 156) rfl (by kernel_rfl) (by kernel_rfl) (by kernel_rfl) hQ (.inl ⟨by kernel_rfl, fun W _ => by kernel_rfl⟩) hS23 (by kernel_rfl) ?_
  (try simp only [Act.put, List.setIfInBounds_toArray, List.set_cons_zero, List.set_cons_succ])
  refine wpAnyH_takeTo (i := 32) (v := .bool true) (t := some 157) rfl (by kernel_rfl) (by kernel_rfl) (by kernel_rfl) hQ (.inl ⟨by kernel_rfl, fun W _ => by kernel_rfl⟩) hS23 (by kernel_rfl) ?_
  (try simp only [Act.put, List.setIfInBounds_toArray, List.set_cons_zero, List.set_cons_succ])
  refine wpAnyH_takeTo (i := 33) (v := .slice (some ⟨b, 0, none⟩) 3 3) (t := some 158) rfl (by kernel_rfl) (by kernel_rfl) (by kernel_rfl) hQ (.inl ⟨by kernel_rfl, fun W _ => by kernel_rfl⟩) hS23 (by kernel_rfl) ?_
  (try simp only [Act.put, List.setIfInBounds_toArray, List.set_cons_zero, List.set_cons_succ])
  refine wpAnyH_takeTo (i := 35) (v := .slice (some ⟨b, 0, none⟩) 3 3) (t := some 160) rfl (by kernel_rfl) (by kernel_rfl) (by kernel_rfl) hQ (.inl ⟨by kernel_rfl, fun W _ => by kernel_rfl⟩) hS23 (by kernel_rfl) ?_
  (try simp only [Act.put, List.setIfInBounds_toArray, List.set_cons_zero, List.set_cons_succ])
  refine wpAnyH_takeTo (i := 36) (v := .pointer (some ⟨b, 62, none⟩)) (t := some 161) rfl (by kernel_rfl) (by kernel_rfl) (by kernel_rfl) hQ (.inl ⟨by kernel_rfl, fun W _ => by kernel_rfl⟩) hS23 (by kernel_rfl) ?_
  (try simp only [Act.put, List.setIfInBounds_toArray, List.set_cons_zero, List.set_cons_succ])
  refine wpAnyH_takeTo (i := 37) (v := .pointer (some ⟨b, 62, none⟩)) (t := some 162) rfl (by kernel_rfl) (by kernel_rfl) (by kernel_rfl) hQ (.inl ⟨by kernel_rfl, fun W _ => by kernel_rfl⟩) hS23 (by kernel_rfl) ?_
  (try simp only [Act.put, List.setIfInBounds_toArray, List.set_cons_zero, List.set_cons_succ])
  refine wpAnyH_takeTo (i := 38) (v := .agg #[.int .i64 5, .int .i64 0, .int .i64 2]) (t := some 163) rfl (by kernel_rfl) (by kernel_rfl) (by kernel_rfl) hQ (yieldsIf_load (by kernel_rfl) 32 (.tmp 162) rfl ⟨b, 62, none⟩ (by kernel_rfl) ([.int .i64 5, .int .i64 0, .int .i64 2]) _ (fun W hW => hW.all.at32) Tryz.underlying32 rfl info32 _ rfl) hS23 (by kernel_rfl) ?_
  (try simp only [Act.put, List.setIfInBounds_toArray, List.set_cons_zero, List.set_cons_succ])
  refine wpAnyH_call 34 _ (by kernel_rfl) rfl (by kernel_rfl) (some 159) (by kernel_rfl) 16 #[.slice (some ⟨b, 0, none⟩) 3 3, .int .i64 0] (by kernel_rfl) _ (sl3 hS23.all) (fun e W24 hR => ?_)
  obtain ⟨rfl, hB24⟩ := hR
  have hS24 := hS23.next hB24
  refine ⟨_, rfl, hS24, ?_⟩
  (try simp only [Act.put, List.setIfInBounds_toArray, List.set_cons_zero, List.set_cons_succ])
  refine wpAnyH_takeTo (i := 39) (v := .bool true) (t := some 164) rfl (by kernel_rfl) (by kernel_rfl) (by kernel_rfl) hQ (.inl ⟨by kernel_rfl, fun W _ => by kernel_rfl⟩) hS24 (by kernel_rfl) ?_
  (try simp only [Act.put, List.setIfInBounds_toArray, List.set_cons_zero, List.set_cons_succ])
  refine wpAnyH_takeTo (i := 40) (v := .bool true) (t := some 165) rfl (by kernel_rfl) (by kernel_rfl) (by kernel_rfl) hQ (.inl ⟨by kernel_rfl, fun W _ => by kernel_rfl⟩) hS24 (by kernel_rfl) ?_
  (try simp only [Act.put, List.setIfInBounds_toArray, List.set_cons_zero, List.set_cons_succ])
  refine wpAnyH_takeTo (i := 41) (v := .bool true) (t := some 166) rfl (by kernel_rfl) (by kernel_rfl) (by kernel_rfl) hQ (.inl ⟨by kernel_rfl, fun W _ => by kernel_rfl⟩) hS24 (by kernel_rfl) ?_
  (try simp only [Act.put, List.setIfInBounds_toArray, List.set_cons_zero, List.set_cons_succ])
  refine wpAnyH_takeTo (i := 43) (v := .agg #[.int .i64 0, .int .i64 (-1), .int .i64 0]) (t := some 168) rfl (by kernel_rfl) (by kernel_rfl) (by kernel_rfl) hQ (.inl ⟨by kernel_rfl, fun W _ => by kernel_rfl⟩) hS24 (by kernel_rfl) ?_
  (try simp only [Act.put, List.setIfInBounds_toArray, List.set_cons_zero, List.set_cons_succ])
  refine wpAnyH_call 42 _ (by kernel_rfl) rfl (by kernel_rfl) (some 167) (by kernel_rfl) 16 #[.slice none 0 0, .int .i64 (-1)] (by kernel_rfl) _ (sl0 W24) (fun e W25 hR => ?_)
  obtain ⟨rfl, hB25⟩ := hR
  have hS25 := hS24.next hB25
  refine ⟨_, rfl, hS25, ?_⟩
  (try simp only [Act.put, List.setIfInBounds_toArray, List.set_cons_zero, List.set_cons_succ])
  refine wpAnyH_takeTo (i := 44) (v := .bool true) (t := some 169) rfl (by kernel_rfl) (by kernel_rfl) (by kernel_rfl) hQ (.inl ⟨by kernel_rfl, fun W _ => by kernel_rfl⟩) hS25 (by kernel_rfl) ?_
  (try simp only [Act.put, List.setIfInBounds_toArray, List.set_cons_zero, List.set_cons_succ])
  refine wpAnyH_takeTo (i := 45) (v := .bool true) (t := some 170) rfl (by kernel_rfl) (by kernel_rfl) (by kernel_rfl) hQ (.inl ⟨by kernel_rfl, fun W _ => by kernel_rfl⟩) hS25 (by kernel_rfl) ?_
  (try simp only [Act.put, List.setIfInBounds_toArray, List.set_cons_zero, List.set_cons_succ])
  refine wpAnyH_takeTo (i := 46) (v := .bool true) (t := some 0) rfl (by kernel_rfl) (by kernel_rfl) (by kernel_rfl) hQ (.inl ⟨by kernel_rfl, fun W _ => by kernel_rfl⟩) hS25 (by kernel_rfl) ?_
  (try simp only [Act.put, List.setIfInBounds_toArray, List.set_cons_zero, List.set_cons_succ])
  refine wpAnyH_done (by kernel_rfl) (NoPanic.normal ?_) _
  clear hQ
  go_wp2_with fail
  go_ret
  exact ⟨rfl, hS25.all.bel⟩
end Go.Proofs.Lw
