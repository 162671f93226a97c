import Derived.Defers
import Derived.Laws.Pointers
import Derived.Recover
import Derived.StillTailTactics
import Derived.Tactics2
import Derived.Test.YtehddihmndpgaaaGreatDoorB04
import Derived.Test.YtehddihmndpgaaaGreatDoorB14
import Derived.Test.YtehddihmndpgaaaGreatDoorB19
import Derived.Test.YtehddihmndpgaaaGreatDoorB22
section
set_option linter.unusedSimpArgs false
set_option linter.unusedVariables false
namespace Go.Proofs.Lw
open Go.RowKit Go.Sort Go.Proofs.YtehddihmndpgaaaGreatDoorW.PrintWords Go.Proofs.YtehddihmndpgaaaGreatDoor.PLib
open Ldg (St cmpS mrg foldJ)
theorem mrg_map : ∀ (a b : List EC), (mrg stc a b).map (·.1) = mrg st (a.map (·.1)) (b.map (·.1)) := by
  intro a b
  fun_induction mrg stc a b with
  | case1 b => simp [mrg]
  | case2 x a => simp [mrg]
  | case3 x a y b h ih => simp only [List.map_cons]; rw [mrg, if_pos (by simpa [stc] using h)]; simp [ih]
  | case4 x a y b h ih => simp only [List.map_cons]; rw [mrg, if_neg (by simpa [stc] using h)]; simp [ih]
theorem mrg_len : ∀ (a b : List EC), (mrg stc a b).length = a.length + b.length := by
  intro a b
  fun_induction mrg stc a b with
  | case1 b => simp
  | case2 x a => simp
  | case3 x a y b h ih => simp only [List.length_cons, ih]; omega
  | case4 x a y b h ih => simp only [List.length_cons, ih]; omega
theorem foldJ_append {E : Type} [DecidableEq E] (s : E → St) : ∀ (p q acc : List E), foldJ s acc (p ++ q) = (foldJ s acc p).bind fun a => foldJ s a q := by
  intro p
  induction p with
  | nil => intro q acc; simp [foldJ]
  | cons x p ih =>
    intro q acc
    simp only [List.cons_append, foldJ]
    cases h : acc.getLast? with
    | none => simp only [h]; exact ih q _
    | some k =>
      simp only [h]
      by_cases e : s k = s x
      · simp only [e, if_true]
        by_cases e2 : k = x
        · simp only [e2, if_true]; exact ih q _
        · simp [e2]
      · simp only [e, if_false]; exact ih q _
structure Acc (w : World) (acc : List EC) (W : World) : Prop where
  v : ∃ v, W.heap[w.heap.size]? = some (.cells #[v] 22 (0, 0)) ∧ W.ownsRow (w.heap.size + 5) 48 31 v acc.length (acc.map (·.2)).flatten
  below : Below w.heap.size w W
  big : w.heap.size + 5 ≤ W.heap.size
  ks : ∀ x ∈ acc, k48.K w x.1 x.2
def not48 (o : Obj) : Prop := ∀ cs r, o ≠ .cells cs 48 r
structure Kp (w W2 W3 : World) : Prop where
  size : W2.heap.size ≤ W3.heap.size
  same : ∀ k o, W2.heap[k]? = some o → k ≠ w.heap.size → not48 o → W3.heap[k]? = some o
theorem own_at {w : World} {base : Nat} {e : TypeId} {size n : Nat} {v : Value} {xs : List Value} (h : w.ownsRow base e size v n xs) (k : Nat) (hk : v.ownBlock = some k) : ∃ cells, base ≤ k ∧ w.heap[k]? = some (.cells cells e (0, 0)) := by
  rcases h.2 with ⟨rfl, _⟩ | ⟨g, cap, cur, rfl, hg, hh, r⟩
  · simp [Value.ownBlock] at hk
  · have : g = k := by simpa [Value.ownBlock] using hk
    subst this
    exact ⟨cur, hg, hh⟩
theorem Acc.move {w W1 W2 : World} {acc : List EC} (h : Acc w acc W1) (hb : Below w.heap.size w W2) (hs : W1.heap.size ≤ W2.heap.size)
    (hk : ∀ k o, W1.heap[k]? = some o → (k = w.heap.size ∨ (w.heap.size + 5 ≤ k ∧ ¬ not48 o)) → W2.heap[k]? = some o) : Acc w acc W2 := by
  obtain ⟨v, h1, h2⟩ := h.v
  refine ⟨⟨v, hk _ _ h1 (.inl rfl), own_move h2 fun k hb => ?_⟩, hb, Nat.le_trans h.big hs, h.ks⟩
  obtain ⟨cells, hge, hc⟩ := own_at h2 k hb
  rw [hc]
  exact hk _ _ hc (.inr ⟨hge, fun hn => hn _ _ rfl⟩)
def BodyPost (w : World) (acc : List EC) (x : EC) (W : World) : Exit → Act → World → Prop
  | .normal, _, W3 => (∃ acc', foldJ st (acc.map (·.1)) [x.1] = some (acc'.map (·.1)) ∧ acc'.length ≤ acc.length + 1 ∧ Acc w acc' W3) ∧ Kp w W W3
  | .panic ch, a, W3 => a.defers = [] ∧ ch = failV 390 ∧ foldJ st (acc.map (·.1)) [x.1] = none ∧ Below w.heap.size w W3 ∧ Kp w W W3
  | _, _, _ => False
theorem putObj_other (W : World) (l : Nat) (o : Obj) {k : Nat} (h : k ≠ l) : (W.putObj l o).heap[k]? = W.heap[k]? := World.putObj_heap_other h
theorem putObj_below {w W : World} (h : Below w.heap.size w W) {l : Nat} (o : Obj) (hl : w.heap.size ≤ l) (hW : l < W.heap.size) : Below w.heap.size w (W.putObj l o) :=
  h.grown (grownBy_putObj' W l o) h.size (fun k e => by cases e; exact hl)
set_option maxHeartbeats 1000000
theorem join_loop (n : Nat) (A B : Option Addr) (ca cb : Nat) (la lb : List EC) (w : World) (hra : Row w A la) (hca : la.length ≤ ca) (hrb : Row w B lb) (hcb : lb.length ≤ cb) (hn : la.length + lb.length ≤ 1000000)
    (assign body : Code) (tmps : Array Value) (W0 : World) (hW0 : ((w.alloc (Obj.cells #[.slice none 0 0] 22)).alloc (Obj.cells #[.slice A la.length ca] 22)).alloc (Obj.cells #[.slice B lb.length cb] 22) = W0)
    (hassign : ∀ (x : EC) (W : World) (K : Act → World → Prop), k48.K w x.1 x.2 → K { tmps := (tmps.setIfInBounds 10 (.agg x.2.toArray)).setIfInBounds 5 (.pointer (some ⟨W.heap.size, 0, none⟩)), defers := [] } (W.alloc (.cells x.2.toArray 48)) →
      assign.wpIn (Fence.wide.inRound (w.heap.size + 4)) (n - 1) Tryz.prog (Exit.then K (fun _ _ _ => False)) { tmps := tmps.setIfInBounds 10 (.agg x.2.toArray), defers := [] } W)
    (hbody : ∀ (acc : List EC) (x : EC) (W : World) (p : Nat), Acc w acc W → k48.K w x.1 x.2 → W.heap[p]? = some (.cells x.2.toArray 48 (0, 0)) → acc.length ≤ 1000000 →
      body.wpIn (Fence.wide.inRound (w.heap.size + 4)) (n - 1) Tryz.prog (BodyPost w acc x W) { tmps := (tmps.setIfInBounds 10 (.agg x.2.toArray)).setIfInBounds 5 (.pointer (some ⟨p, 0, none⟩)), defers := [] } W) :
    CallsIn Fence.wide n Tryz.prog 63 #[.func (.yield (w.heap.size + 4)) #[] #[], .pointer (some ⟨w.heap.size + 1, 0, none⟩), .pointer (some ⟨w.heap.size + 2, 0, none⟩)]
      ((W0.alloc (.deferred (some []))).alloc (.loop { state := .ready, pending := none, fn := 24, tmps := tmps, params := #[10], assign, body, defers := w.heap.size + 3 })) fun e W' =>
      (∃ v, e = .returned v ∧ ∃ acc, foldJ st [] ((mrg stc la lb).map (·.1)) = some (acc.map (·.1)) ∧ acc.length ≤ 1000000 ∧ Acc w acc W' ∧
        W'.heap[w.heap.size + 4]? = some (.loop { state := .ready, pending := none, fn := 24, tmps := tmps, params := #[10], assign, body, defers := w.heap.size + 3 }) ∧ W'.heap[w.heap.size + 3]? = some (.deferred (some []))) ∨
      (∃ ch, e = .panicked ch ∧ ch = failV 390 ∧ foldJ st [] ((mrg stc la lb).map (·.1)) = none ∧ Below w.heap.size w W' ∧ W'.heap[w.heap.size + 3]? = some (.deferred (some []))) := by
  obtain ⟨rec, hrec⟩ : ∃ rec : LoopState → Option Code → Loop, rec = fun st pe => { state := st, pending := pe, fn := 24, tmps := tmps, params := #[10], assign, body, defers := w.heap.size + 3 } := ⟨_, rfl⟩
  obtain ⟨W1, hW1⟩ : ∃ W1, (W0.alloc (.deferred (some []))).alloc (.loop (rec .ready none)) = W1 := ⟨_, rfl⟩
  have hgoal : ({ state := .ready, pending := none, fn := 24, tmps := tmps, params := #[10], assign, body, defers := w.heap.size + 3 } : Loop) = rec .ready none := by rw [hrec]
  rw [hgoal, hW1]
  have s0 : W0.heap.size = w.heap.size + 3 := by rw [← hW0]; simp
  have s1 : W1.heap.size = w.heap.size + 5 := by rw [← hW1]; simp [s0]
  have hL1 : W1.heap[w.heap.size + 4]? = some (.loop (rec .ready none)) := by
    rw [← hW1]; have := World.alloc_heap_new (W0.alloc (.deferred (some []))) (.loop (rec .ready none)); rwa [World.size_alloc, s0] at this
  have hD1 : W1.heap[w.heap.size + 3]? = some (.deferred (some [])) := by
    rw [← hW1]; have := World.alloc_heap_new W0 (.deferred (some [])); rw [s0] at this
    exact (alloc_old (W0.alloc (.deferred (some []))) _ (by simp [s0])).trans this
  have o3 : ∀ k, k < W0.heap.size → W1.heap[k]? = W0.heap[k]? := fun k hk => by
    rw [← hW1]; exact (alloc_old _ _ (by simp; omega)).trans (alloc_old _ _ hk)
  have hA1 : W1.heap[w.heap.size + 1]? = some (.cells #[.slice A la.length ca] 22 (0, 0)) := by
    rw [o3 _ (by omega), ← hW0]
    exact (alloc_old _ _ (by simp)).trans (by have := World.alloc_heap_new (w.alloc (Obj.cells #[.slice none 0 0] 22)) (Obj.cells #[.slice A la.length ca] 22); rwa [World.size_alloc] at this)
  have hB1 : W1.heap[w.heap.size + 2]? = some (.cells #[.slice B lb.length cb] 22 (0, 0)) := by
    rw [o3 _ (by omega), ← hW0]
    have := World.alloc_heap_new ((w.alloc (Obj.cells #[.slice none 0 0] 22)).alloc (Obj.cells #[.slice A la.length ca] 22)) (Obj.cells #[.slice B lb.length cb] 22)
    rwa [World.size_alloc, World.size_alloc] at this
  have hX1 : W1.heap[w.heap.size]? = some (.cells #[.slice none 0 0] 22 (0, 0)) := by
    rw [o3 _ (by omega), ← hW0]
    exact (alloc_old _ _ (by simp; omega)).trans ((alloc_old _ _ (by simp)).trans (World.alloc_heap_new w _))
  have hb1 : Below w.heap.size w W1 := by
    rw [← hW1, ← hW0]
    exact ((((((Below.refl _ w).alloc (Nat.le_refl _) _).alloc (by simp) _).alloc (by simp; omega) _).alloc (by simp; omega) _).alloc (by simp; omega) _)
  have hacc0 : Acc w [] W1 := ⟨⟨_, hX1, by simp, .inl ⟨rfl, rfl⟩⟩, hb1, by omega, by simp⟩
  refine (iter_any n w la lb (w.heap.size + 1) (w.heap.size + 2) (w.heap.size + 4) (by omega) (by omega) (by omega)
    (fun pre W => ∃ acc : List EC, foldJ st [] (pre.map (·.1)) = some (acc.map (·.1)) ∧ acc.length ≤ pre.length ∧ Acc w acc W ∧ W.heap[w.heap.size + 4]? = some (.loop (rec .ready none)) ∧ W.heap[w.heap.size + 3]? = some (.deferred (some [])))
    (fun ch W => ch = failV 390 ∧ foldJ st [] ((mrg stc la lb).map (·.1)) = none ∧ Below w.heap.size w W ∧ W.heap[w.heap.size + 3]? = some (.deferred (some [])))
    ?_ ?_ W1 hb1 A B ca cb hA1 hB1 hra hca hrb hcb ⟨[], rfl, Nat.le_refl _, hacc0, hL1, hD1⟩).mono ?_
  · rintro pre X Y ⟨acc, e1, e2, hacc, hl, hd⟩ hst hbY
    have hsame : ∀ k o, X.heap[k]? = some o → k ≠ w.heap.size + 1 → k ≠ w.heap.size + 2 → Y.heap[k]? = some o := fun k o hk h1 h2 =>
      (hst.same k (Array.getElem?_eq_some_iff.1 hk).1 h1 h2).trans hk
    refine ⟨acc, e1, e2, hacc.move hbY hst.size (fun k o hk hh => hsame k o hk (by omega) (by omega)), hsame _ _ hl (by omega) (by omega), hsame _ _ hd (by omega) (by omega)⟩
  · rintro pre x post X ⟨acc, e1, e2, hacc, hl, hd⟩ hm hK hbX hAs hBs ⟨uA, hAc⟩ ⟨uB, hBc⟩
    have hpl : pre.length ≤ 1000000 := by
      have := congrArg List.length hm
      rw [mrg_len] at this
      simp at this
      omega
    have hy := run_yield (P := Tryz.prog) (args := #[.agg x.2.toArray]) hl (by rw [hrec]; rfl)
    rw [hrec] at hy
    dsimp only at hy
    have hz : (((#[10] : Array Tmp).zip #[Value.agg x.2.toArray]).foldl (fun tmps (t, a) => tmps.setIfInBounds t a) tmps) = tmps.setIfInBounds 10 (.agg x.2.toArray) := by simp
    rw [hz] at hy
    refine ⟨_, _, _, _, hy, roundIn_of_wpIn_p trivial ⟨_, Tryz.func24⟩ (hassign x X _ hK ?_)⟩
    clear hy
    have hlt : w.heap.size + 4 < X.heap.size := (Array.getElem?_eq_some_iff.1 hl).1
    obtain ⟨X1, hX1'⟩ : ∃ X1, X.alloc (.cells x.2.toArray 48) = X1 := ⟨_, rfl⟩
    have hs1 : X1.heap.size = X.heap.size + 1 := by rw [← hX1']; simp
    have k1 : ∀ k, k < X.heap.size → X1.heap[k]? = X.heap[k]? := fun k hk => by rw [← hX1']; exact alloc_old _ _ hk
    have hl1 := (k1 _ hlt).trans hl
    rw [hX1']
    refine ⟨_, run_beginRound hl1 (by rw [hrec]), ?_⟩
    obtain ⟨X2, hX2⟩ : ∃ X2, X1.putObj (w.heap.size + 4) (.loop { rec .ready none with state := .busy }) = X2 := ⟨_, rfl⟩
    rw [hX2]
    have hs2 : X2.heap.size = X1.heap.size := by rw [← hX2]; simp [World.putObj]
    have k2 : ∀ k, k ≠ w.heap.size + 4 → X2.heap[k]? = X1.heap[k]? := fun k hk => by rw [← hX2]; exact putObj_other _ _ _ hk
    have hl2 : X2.heap[w.heap.size + 4]? = some (.loop { rec .ready none with state := .busy }) := by rw [← hX2]; exact World.putObj_heap_same (by omega)
    have hb2 : Below w.heap.size w X2 := by rw [← hX2, ← hX1']; exact putObj_below (hbX.alloc hbX.size _) _ (by omega) (by simp; omega)
    have hk2 : ∀ k o, X.heap[k]? = some o → k ≠ w.heap.size + 4 → X2.heap[k]? = some o := fun k o hk hne => (k2 k hne).trans ((k1 k (Array.getElem?_eq_some_iff.1 hk).1).trans hk)
    have hacc2 : Acc w acc X2 := hacc.move hb2 (by omega) (fun k o hk hh => hk2 k o hk (by omega))
    have hp2 : X2.heap[X.heap.size]? = some (.cells x.2.toArray 48 (0, 0)) := by
      rw [k2 _ (by omega), ← hX1']; exact World.alloc_heap_new X _
    have hlc : X2.heap[w.heap.size + 1]? = some (.cells uA 22 (0, 0)) := hk2 _ _ hAc (by omega)
    have hrc : X2.heap[w.heap.size + 2]? = some (.cells uB 22 (0, 0)) := hk2 _ _ hBc (by omega)
    have hd2 := hk2 _ _ hd (by omega)
    refine wpIn_mono (hbody acc x X2 X.heap.size hacc2 hK hp2 (by omega)) ?_
    have hfold : foldJ st [] ((pre ++ [x]).map (·.1)) = foldJ st (acc.map (·.1)) [x.1] := by
      rw [List.map_append, foldJ_append, e1]; rfl
    rintro e a3 W3 hp
    cases e with
    | normal =>
      obtain ⟨⟨acc', f1, f2, hacc'⟩, hkp⟩ := hp
      have hl3 := hkp.same _ _ hl2 (by omega) (fun cs r e => by cases e)
      have hd3 := hkp.same _ _ hd2 (by omega) (fun cs r e => by cases e)
      have hA3 := hkp.same _ _ hlc (by omega) (fun cs r e => by cases e)
      have hB3 := hkp.same _ _ hrc (by omega) (fun cs r e => by cases e)
      have hlt3 : w.heap.size + 4 < W3.heap.size := (Array.getElem?_eq_some_iff.1 hl3).1
      have hend := run_endRound (P := Tryz.prog) none hl3
      refine ⟨_, _, hend, .inl ⟨rfl, ⟨acc', by rw [hfold]; exact f1, by simp; omega, ?_, ?_, ?_⟩, ?_, ?_, ?_⟩⟩
      · exact hacc'.move (putObj_below hacc'.below _ (by omega) hlt3) (by simp [World.putObj]) (fun k o hk hh => (putObj_other _ _ _ (by omega)).trans hk)
      · rw [World.putObj_heap_same hlt3]; simp [hrec]
      · rw [putObj_other _ _ _ (by omega)]; exact hd3
      · rw [putObj_other _ _ _ (by omega), hA3, hAc]
      · rw [putObj_other _ _ _ (by omega), hB3, hBc]
      · exact putObj_below hacc'.below _ (by omega) hlt3
    | panic ch =>
      obtain ⟨hd0, hch, hf, hb3, hkp⟩ := hp
      refine ⟨hd0, .inr ⟨ch, rfl, hch, ?_, hb3, hkp.same _ _ hd2 (by omega) (fun cs r e => by cases e)⟩⟩
      rw [hm, show pre ++ x :: post = (pre ++ [x]) ++ post by simp, List.map_append, foldJ_append, hfold, hf]
      rfl
    | ret => exact hp.elim
    | exit id => exact hp.elim
    | goto t => exact hp.elim
    | outgrown => exact hp.elim
  · rintro e W' (⟨v, rfl, acc, h1, h2, h3, h4, h5⟩ | ⟨ch, rfl, h1, h2, h3, h4⟩)
    · exact .inl ⟨v, rfl, acc, h1, by rw [mrg_len] at h2; omega, h3, h4, h5⟩
    · exact .inr ⟨ch, rfl, h1, h2, h3, h4⟩
end Go.Proofs.Lw
end
section
set_option linter.unusedSimpArgs false
set_option linter.unusedVariables false
namespace Go.Proofs.Lw
open Go.RowKit Go.Sort Go.Proofs.YtehddihmndpgaaaGreatDoorW.PrintWords Go.Proofs.YtehddihmndpgaaaGreatDoor.PLib
open Ldg (St cmpS mrg foldJ)
attribute [local go_sem] Oper.semAt_some
theorem run_eql32 {o : Oper} {a : Act} {w : World} (i j : Nat) (ho : o.op = .binOp .eql 32 (.tmp i) (.tmp j) 32) (x0 x1 x2 y0 y1 y2 : Int) (hx : a.eval (.tmp i) = .agg #[.int .i64 x0, .int .i64 x1, .int .i64 x2]) (hy : a.eval (.tmp j) = .agg #[.int .i64 y0, .int .i64 y1, .int .i64 y2]) :
    (execOp a.eval o).run Tryz.prog w = .ok (.value (.bool (x0 == y0 && (x1 == y1 && (x2 == y2))))) w := by
  have hu := Tryz.underlying32
  unfold execOp
  simp only [ho, hx, hy]
  simp [go_sem, hu]
  by_cases h0 : x0 = y0 <;> by_cases h1 : x1 = y1 <;> by_cases h2 : x2 = y2 <;> simp [h0, h1, h2]
theorem quiet_eql32 {ops : Array Oper} {C : World → Prop} {Q : Act → Prop} {a : Act} {o : Oper} {rest : List Oper} (i j : Nat) (ho : o.op = .binOp .eql 32 (.tmp i) (.tmp j) 32) (x0 x1 x2 y0 y1 y2 : Int) (hx : a.eval (.tmp i) = .agg #[.int .i64 x0, .int .i64 x1, .int .i64 x2]) (hy : a.eval (.tmp j) = .agg #[.int .i64 y0, .int .i64 y1, .int .i64 y2])
    (hw : Region.wanted o (yielded ops a.tmps) = true) (b : Bool) (hb : (x0 == y0 && (x1 == y1 && (x2 == y2))) = b) (h : wpQuiet Tryz.prog ops C Q rest (a.put o.dst (.bool b))) : wpQuiet Tryz.prog ops C Q (o :: rest) a :=
  BigFrame.wpQuiet_want hw fun K hK => ⟨.bool b, fun w _ => by unfold Oper.quietAt; rw [run_eql32 i j ho x0 x1 x2 y0 y1 y2 hx hy, hb]; exact ⟨rfl, rfl⟩, hK _ h⟩
theorem wpStill_load_at {P : Program} {ops : Array Oper} {w : World} {Q : Act → Prop} {rest : List Oper} {op : Oper} {a : Act} (hgd : op.guard = none) (ty : TypeId) (x : Operand) (ho : op.op = .load ty x)
    (p : Addr) (hx : a.eval x = .pointer (some p)) (cs : List Value) (d : TypeDesc) (hc : ∀ j v, cs[j]? = some v → w.cell? (p.add j) = some v)
    (hu : P.underlying ty = some d) (hd : d.isRow = true) (hi : (P.info? ty).map (·.size) = some cs.length)
    (h : wpStill P ops w Q rest (a.put op.dst (.agg cs.toArray))) : wpStill P ops w Q (op :: rest) a := by
  refine wpStill_step fun K hK => ?_
  simp only [Region.wanted, hgd, if_true]
  unfold Oper.still execOp
  simp only [ho, hx, Instr.loadAt, Instr.sureAddr, Sem.run_bind, Sem.run_pure, Result.andThen_ok, run_loadVar_at w p ty cs d hc hu hd hi]
  exact ⟨rfl, hK _ h⟩
theorem Kp.of_below {w W X Y : World} (h : Kp w W X) (hb : Below X.heap.size X Y) : Kp w W Y :=
  ⟨Nat.le_trans h.size hb.size, fun k o hk h1 h2 => by
    have := h.same k o hk h1 h2
    exact (hb.block k (Array.getElem?_eq_some_iff.1 this).1).trans this⟩
theorem run_index22 {o : Oper} {a : Act} {w : World} (i j : Nat) (ho : o.op = .indexAddr 22 (.tmp i) (.tmp j)) (g n cap : Nat) (hx : a.eval (.tmp i) = .slice (some ⟨g, 0, none⟩) (n + 1) cap) (hy : a.eval (.tmp j) = .int .i64 n) :
    (execOp a.eval o).run Tryz.prog w = .ok (.value (.pointer (some ⟨g, n * 31, none⟩))) w := by
  have hu := Tryz.underlying22
  obtain ⟨i0, z0', hi, hz0, hz1, hz2, hz3⟩ := i48
  have e1 : ¬ (n : Int) < 0 := by omega
  have e2 : (n : Int) < n + 1 := by omega
  unfold execOp
  simp only [ho, hx, hy]
  simp [go_sem, hu, hi, hz1, e1, e2]
theorem wpStill_index {ops : Array Oper} {w : World} {Q : Act → Prop} {rest : List Oper} {o : Oper} {a : Act} (hgd : o.guard = none) (i j : Nat) (ho : o.op = .indexAddr 22 (.tmp i) (.tmp j)) (g n cap : Nat) (hx : a.eval (.tmp i) = .slice (some ⟨g, 0, none⟩) (n + 1) cap) (hy : a.eval (.tmp j) = .int .i64 n)
    (h : wpStill Tryz.prog ops w Q rest (a.put o.dst (.pointer (some ⟨g, n * 31, none⟩)))) : wpStill Tryz.prog ops w Q (o :: rest) a := by
  refine wpStill_step fun K hK => ?_
  simp only [Region.wanted, hgd, if_true]
  unfold Oper.still
  rw [run_index22 i j ho g n cap hx hy]
  exact ⟨rfl, hK _ h⟩
theorem below_drew {w W : World} (h : Below w.heap.size w W) (n : Nat) : Below w.heap.size w (W.drewN n) := ⟨h.os, h.tape, h.output, h.size, h.block⟩
theorem row_new (w : World) (cs : List Value) (t : TypeId) : ∀ j u, cs[j]? = some u → (w.alloc (Obj.cells cs.toArray t)).cell? ((⟨w.heap.size, 0, none⟩ : Addr).add j) = some u := by
  intro j u hu
  have h2 := cell_of_row _ w.heap.size j _ t (0, 0) (heap_alloc_new w (Obj.cells cs.toArray t))
  have h3 : (⟨w.heap.size, 0, none⟩ : Addr).add j = ⟨w.heap.size, j, none⟩ := by unfold Addr.add; by_cases h : j = 0 <;> simp [h]
  rw [h3, h2]
  simpa using hu
theorem x_after {w W4 w3 : World} {n : Nat} {xs : List Value} {v : Value} {o : Obj} (hX : W4.heap[w.heap.size]? = some (.cells #[v] 22 (0, 0))) (hown : W4.ownsRow (w.heap.size + 5) 48 31 v n xs) (hg : (W4.alloc o).grownBy w3 v.ownBlock) :
    w3.heap[w.heap.size]? = some (.cells #[v] 22 (0, 0)) := by
  have hs := (Array.getElem?_eq_some_iff.1 hX).1
  refine (hg.block _ (by simp; omega) (fun e => ?_)).trans ((alloc_old _ _ hs).trans hX)
  obtain ⟨_, h5, _⟩ := own_at hown _ e.symm
  omega
theorem body_done {w W W4 w3 : World} {acc : List EC} {n : Nat} (hn : acc.length = n) {x : EC} {v v' : Value} (hb4 : Below w.heap.size w W4) (hp4 : W4.heap = W.heap) (hX : W4.heap[w.heap.size]? = some (.cells #[v] 22 (0, 0)))
    (hown : W4.ownsRow (w.heap.size + 5) 48 31 v n (acc.map (·.2)).flatten) (hbig : w.heap.size + 5 ≤ W4.heap.size) (hK : k48.K w x.1 x.2) (hks : ∀ y ∈ acc, k48.K w y.1 y.2)
    (hown' : w3.ownsRow (w.heap.size + 5) 48 31 v' (n + 1) ((acc.map (·.2)).flatten ++ x.2)) (hg : (W4.alloc (.cells x.2.toArray 48)).grownBy w3 v.ownBlock) :
    Acc w (acc ++ [x]) (w3.setCell ⟨w.heap.size, 0, none⟩ v') ∧ Kp w W (w3.setCell ⟨w.heap.size, 0, none⟩ v') := by
  subst hn
  have hX3 := x_after hX hown hg
  have hb3 : Below w.heap.size w w3 := (hb4.alloc hb4.size _).grown hg (by simp; omega) (fun k e => by obtain ⟨_, h5, _⟩ := own_at hown _ e; omega)
  have hs3 : W4.heap.size + 1 ≤ w3.heap.size := by have := hg.size; simpa using this
  refine ⟨⟨⟨v', box_set _ _ _ _ _ hX3, ?_⟩, hb3.setCell (p := ⟨w.heap.size, 0, none⟩) (Nat.le_refl _) _, by simp; omega, ?_⟩, ⟨by simp; rw [← hp4]; omega, ?_⟩⟩
  · have := own_move (w1 := w3.setCell ⟨w.heap.size, 0, none⟩ v') hown' (fun k hk => by
      obtain ⟨_, h5, _⟩ := own_at hown' _ hk
      exact set_other _ _ _ _ (by omega))
    simpa using this
  · intro y hy
    rcases List.mem_append.1 hy with hy | hy
    · exact hks y hy
    · obtain rfl := List.mem_singleton.1 hy
      exact hK
  · intro k o hk hne hno
    rw [← hp4] at hk
    have hlt := (Array.getElem?_eq_some_iff.1 hk).1
    refine (set_other _ _ _ _ hne).trans ((hg.block k (by simp; omega) (fun e => ?_)).trans ((alloc_old _ _ hlt).trans hk))
    obtain ⟨cs, _, hc⟩ := own_at hown _ e.symm
    rw [hk] at hc
    cases hc
    exact hno _ _ rfl
theorem flat_len {l : List EC} (h : ∀ z ∈ l, z.2.length = 31) : (l.map (·.2)).flatten.length = l.length * 31 := by
  induction l with
  | nil => rfl
  | cons z l ih => simp only [List.map_cons, List.flatten_cons, List.length_append, List.length_cons]; rw [ih fun u hu => h u (by simp [hu]), h z (by simp)]; omega
theorem own_last {W : World} {base g cap : Nat} {ini : List EC} {y : EC} (hown : W.ownsRow base 48 31 (.slice (some ⟨g, 0, none⟩) (ini.length + 1) cap) (ini ++ [y]).length ((ini ++ [y]).map (·.2)).flatten) (hl : ∀ z ∈ ini, z.2.length = 31) :
    ∀ j u, y.2[j]? = some u → W.cell? ⟨g, ini.length * 31 + j, none⟩ = some u := by
  intro j u hu
  have hz := hown.1
  rcases hown.2 with ⟨h, _⟩ | ⟨g', cap', cur, e, _, hh, h1, h2, h3, h4⟩
  · cases h
  · simp only [Value.slice.injEq, Option.some.injEq, Addr.mk.injEq] at e
    obtain ⟨⟨rfl, _⟩, _⟩ := e
    rw [cell_of_row _ _ _ _ _ _ hh]
    have hlt : ini.length * 31 + j < (ini ++ [y]).length * 31 := by
      have hj := (List.getElem?_eq_some_iff.1 hu).1
      have hf := flat_len hl
      simp only [List.map_append, List.flatten_append, List.length_append, List.map_cons, List.map_nil, List.flatten_cons, List.flatten_nil, List.append_nil, List.length_cons, List.length_nil] at hz ⊢
      omega
    have h5 : cur[ini.length * 31 + j]? = (cur.toList.take ((ini ++ [y]).length * 31))[ini.length * 31 + j]? := by
      rw [List.getElem?_take, if_pos hlt]; simp
    rw [h5, h4, List.map_append, List.flatten_append, List.getElem?_append_right (by rw [flat_len hl]; omega), flat_len hl]
    simpa using hu
theorem foldJ_mem {E : Type} [DecidableEq E] (s : E → St) : ∀ (l acc r : List E), foldJ s acc l = some r → ∀ x ∈ r, x ∈ acc ∨ x ∈ l := by
  intro l
  induction l with
  | nil => intro acc r h x hx; simp only [foldJ, Option.some.injEq] at h; subst h; exact .inl hx
  | cons n l ih =>
    intro acc r h x hx
    simp only [foldJ] at h
    have step : ∀ acc', foldJ s acc' l = some r → (∀ z ∈ acc', z ∈ acc ∨ z = n) → x ∈ acc ∨ x ∈ n :: l := fun acc' h' hs => by
      rcases ih acc' r h' x hx with h1 | h1
      · rcases hs x h1 with h2 | rfl
        · exact .inl h2
        · exact .inr (by simp)
      · exact .inr (by simp [h1])
    cases hg : acc.getLast? with
    | none => simp only [hg] at h; exact step _ h (fun z hz => by simpa using hz)
    | some k =>
      simp only [hg] at h
      split at h
      · split at h
        · exact step _ h (fun z hz => .inl hz)
        · cases h
      · exact step _ h (fun z hz => by simpa using hz)
theorem flat_get : ∀ {l : List EC} (h : ∀ z ∈ l, z.2.length = 31) (j : Nat) (hj : j < l.length) (i : Nat) (hi : i < 31), (l.map (·.2)).flatten[j * 31 + i]? = l[j].2[i]? := by
  intro l
  induction l with
  | nil => intro _ j hj; simp at hj
  | cons z l ih =>
    intro h j hj i hi
    have hz := h z (by simp)
    simp only [List.map_cons, List.flatten_cons]
    cases j with
    | zero => rw [List.getElem?_append_left (by omega)]; simp
    | succ j =>
      rw [List.getElem?_append_right (by omega), hz, show (j + 1) * 31 + i - 31 = j * 31 + i by omega, ih (fun u hu => h u (by simp [hu])) j (by simpa using hj) i hi]
      simp
theorem acc_row {w W : World} {acc : List EC} (h : Acc w acc W) : ∃ AX cX, W.heap[w.heap.size]? = some (.cells #[.slice AX acc.length cX] 22 (0, 0)) ∧ acc.length ≤ cX ∧ Kd.C k48 W AX acc.length (acc.map (·.1)) := by
  obtain ⟨v, hX, hl, hv⟩ := h.v
  have hks := h.ks
  have hl31 : ∀ z ∈ acc, z.2.length = 31 := fun z hz => k48_len (hks z hz)
  rcases hv with ⟨rfl, h0⟩ | ⟨g, cap, cur, rfl, _, hh, h1, h2, h3, h4⟩
  · rw [h0]
    obtain rfl := List.length_eq_zero_iff.1 h0
    exact ⟨none, 0, hX, by simp, by simp, by simp, fun h => by simp at h⟩
  · refine ⟨_, _, hX, h1, by simp, by have : maxLen = 9223372036854775807 := rfl; omega, fun _ => ⟨_, rfl, ?_⟩⟩
    intro j q hq
    rw [List.getElem?_map] at hq
    obtain ⟨z, hz, rfl⟩ := Option.map_eq_some_iff.1 hq
    obtain ⟨hj, rfl⟩ := List.getElem?_eq_some_iff.1 hz
    have hmem := List.getElem_mem hj
    refine ⟨acc[j].2, hl31 _ hmem, k48.K_below h.below (hks _ hmem), ?_⟩
    intro i u hu
    have hi : i < 31 := by have := (List.getElem?_eq_some_iff.1 hu).1; rw [hl31 _ hmem] at this; exact this
    have e : ((⟨g, 0, none⟩ : Addr).add (j * k48.sz + i)) = ⟨g, j * 31 + i, none⟩ := by
      show (⟨g, 0, none⟩ : Addr).add (j * 31 + i) = _
      unfold Addr.add; by_cases h : j * 31 + i = 0
      · rw [if_pos h, h]
      · rw [if_neg h]; simp
    rw [e, cell_of_row _ _ _ _ _ _ hh]
    have h5 : cur[j * 31 + i]? = (cur.toList.take (acc.length * 31))[j * 31 + i]? := by
      rw [List.getElem?_take, if_pos (by omega)]; simp
    rw [h5, h4, flat_get hl31 j hj i hi]
    exact hu
def JoinPost (w : World) (r : Except Int (List S48)) (e : Ending) (w' : World) : Prop := Below w.heap.size w w' ∧
  (match r with
   | .ok x => ∃ A c, e = .returned (.slice A x.length c) ∧ x.length ≤ c ∧ Kd.C k48 w' A x.length x
   | .error z => e = .panicked (failV z))
set_option maxHeartbeats 8000000
set_option maxRecDepth 100000 in
theorem joined_ec (A B : Option Addr) (ca cb : Nat) (la lb : List EC) (w : World) (hra : Row w A la) (hca : la.length ≤ ca) (hrb : Row w B lb) (hcb : lb.length ≤ cb)
    (hcam : ∀ x ∈ la ++ lb, 0 ≤ x.1.f0.f1 ∧ x.1.f0.f1 ≤ 6) (hn : la.length + lb.length ≤ 1000000) :
    Calls Tryz.prog 24 #[.slice A la.length ca, .slice B lb.length cb] w (JoinPost w (Ldg.joinR st (la.map (·.1)) (lb.map (·.1)))) := by
  refine callsIn_wide.1 (callsIn_of_wpF_marks (n := 5) Tryz.func24 rfl trivial ?_ rfl)
  simp only [Tryz.ntmps24, List.size_toArray, List.length_cons, List.length_nil, Nat.reduceAdd, Nat.reduceSub, Array.replicate_succ, Array.replicate_zero, List.push_toArray, List.append_toArray, List.nil_append, List.cons_append]
  refine wpF_seq (wpF_of ?_)
  gi_wp2
  refine wpF_seq (wpF_seq (wpF_of ?_))
  gi_wp2
  refine ⟨trivial, ((callsIn_wide (n := 4)).2 (merged_sl A B la.length lb.length ca cb _)).mono ?_⟩
  rintro _ _ ⟨rfl, rfl⟩
  gi_wp2
  obtain ⟨W0, hW0⟩ : ∃ W0, ((w.alloc (Obj.cells #[.slice none 0 0] 22)).alloc (Obj.cells #[.slice A la.length ca] 22)).alloc (Obj.cells #[.slice B lb.length cb] 22) = W0 := ⟨_, rfl⟩
  have z0 : W0.heap.size = w.heap.size + 3 := by rw [← hW0]; simp
  rw [hW0]
  refine wpF_block (wpF_rangeFunc rfl (fun h => by simp [Fence.wide] at h) rfl trivial (fun _ _ => rfl) ?_)
  rw [z0]
  refine (join_loop 4 A B ca cb la lb w hra hca hrb hcb hn _ _ _ W0 hW0 ?asg ?bd).mono ?en
  case asg =>
    intro x W K hK hk
    have hcl := k48_len hK
    have hsz : (Tryz.prog.info? 48).map (·.size) = some x.2.length := by rw [hcl]; exact info48
    have hone := k48_one hK
    simp only [List.setIfInBounds_toArray, List.set_cons_succ, List.set_cons_zero] at hk ⊢
    gi_wp2_with (refine wpListIn_store_new free_round rfl 48 _ _ rfl x.2.toArray _ _ rfl rfl (by simpa using hsz) (by simp [hcl]) hone ?_)
    exact hk
  case bd =>
    intro acc x W p hacc hK hp hlen
    simp only [List.setIfInBounds_toArray, List.set_cons_succ, List.set_cons_zero]
    have hcl := k48_len hK
    have hsz : (Tryz.prog.info? 48).map (·.size) = some x.2.length := by rw [hcl]; exact info48
    have hone := k48_one hK
    obtain ⟨v, hX, hown⟩ := hacc.v
    have hX0 : W.cell? ⟨w.heap.size, 0, none⟩ = some v := cell_of_row W w.heap.size 0 _ 22 (0, 0) hX
    have hfX : W.frozen? ⟨w.heap.size, 0, none⟩ = false := by simp [World.frozen?, hX]
    have hpc : ∀ j u, x.2[j]? = some u → W.cell? ((⟨p, 0, none⟩ : Addr).add j) = some u := fun j u hu => by
      have h2 := cell_of_row W p j _ 48 (0, 0) hp
      have h3 : (⟨p, 0, none⟩ : Addr).add j = ⟨p, j, none⟩ := by unfold Addr.add; by_cases h : j = 0 <;> simp [h]
      rw [h3, h2]
      simpa using hu
    by_cases h0 : acc.length = 0
    · obtain ⟨AX, cX, hv⟩ : ∃ AX cX, v = .slice AX 0 cX := by
        rcases hown.2 with ⟨rfl, _⟩ | ⟨g, cap, cur, rfl, _⟩
        · exact ⟨_, _, rfl⟩
        · exact ⟨_, _, by rw [h0]⟩
      subst hv
      have hX0' := hX0
      gi_wp2
      refine wpIn_round_quiet_lit (by kernel_rfl) (by kernel_rfl) ?_ (by kernel_rfl) ?_
      · intro a w h
        exact h
      repeat (first | go_big_quiet_step (fail) | quiet_step (fail))
      refine wpQuiet_nil ?_
      rintro _ ⟨nq, rfl⟩
      obtain ⟨W4, hW4⟩ : ∃ W4, W.drewN nq = W4 := ⟨_, rfl⟩
      rw [hW4]
      have hp4 : W4.heap = W.heap := by rw [← hW4]; rfl
      have hb4 : Below w.heap.size w W4 := by rw [← hW4]; exact below_drew hacc.below nq
      have hX4 : W4.cell? ⟨w.heap.size, 0, none⟩ = some (.slice AX 0 cX) := by simpa [World.cell?, hp4] using hX0'
      have hfX4 : W4.frozen? ⟨w.heap.size, 0, none⟩ = false := by simpa [World.frozen?, hp4] using hfX
      have hpc4 : ∀ j u, x.2[j]? = some u → W4.cell? ((⟨p, 0, none⟩ : Addr).add j) = some u := fun j u hu => by simpa [World.cell?, hp4] using hpc j u hu
      have hown4 : W4.ownsRow (w.heap.size + 5) 48 31 (.slice AX 0 cX) acc.length (acc.map (·.2)).flatten := own_move hown fun k _ => by rw [hp4]
      have hbig4 : w.heap.size + 5 ≤ W4.heap.size := by rw [hp4]; exact hacc.big
      have hKp4 : Kp w W W4 := ⟨by rw [hp4]; exact Nat.le_refl _, fun k o hk _ _ => by rw [hp4]; exact hk⟩
      have hX4h : W4.heap[w.heap.size]? = some (.cells #[.slice AX 0 cX] 22 (0, 0)) := by rw [hp4]; exact hX
      have Hp4 := Lib.hid hp4
      clear hX0 hpc hp4
      obtain ⟨i0, z0', hi, hz0, hz1, hz2, hz3⟩ := i48
      gi_wp2_with (first
        | (refine wpListIn_load_at free_round rfl 48 _ rfl ⟨p, 0, none⟩ rfl x.2 _ hpc4 Tryz.underlying48 rfl hsz ?_)
        | (refine wpListIn_build1 free_round rfl 22 48 _ rfl x.2 rfl i0 z0' Tryz.underlying22 hi hz0 (by rw [hz1, hcl]) (by omega) (by omega) (by rw [hz3, hcl]) ?_)
        | (gi_at_builtin; refine wpListIn_append_own _ rfl _ _ 22 rfl (w.heap.size + 5) 48 i0 z0' 31 320 Tryz.underlying22 hi hz0 hz1 hz2 hz3 (by decide) _ acc.length (acc.map (·.2)).flatten rfl (hown4.alloc _) ⟨W4.heap.size, 0, none⟩ 1 1 x.2 rfl (by omega) (row_new W4 x.2 48) (fun u hu => by simpa using Array.all_eq_true_iff_forall_mem.1 hone u (by simpa using hu)) (by have : maxLen = 9223372036854775807 := rfl; omega) (by omega) (by simp; omega) ?_; intro v' w3 hown' hg3 hnil3; obtain ⟨g', cap', rfl⟩ := ownsRow_succ hown'; have hX3h := x_after hX4h hown4 hg3; have hX3 : w3.cell? ⟨w.heap.size, 0, none⟩ = _ := cell_of_row w3 w.heap.size 0 _ 22 (0, 0) hX3h; have hfX3 : w3.frozen? ⟨w.heap.size, 0, none⟩ = false := by simp [World.frozen?, hX3h]))
      obtain ⟨d1, d2⟩ := body_done rfl hb4 Hp4.out hX4h hown4 hbig4 hK hacc.ks hown' hg3
      simp only [h0, Nat.zero_add] at d1 d2
      refine ⟨⟨acc ++ [x], ?_, by simp, d1⟩, d2⟩
      obtain rfl := List.length_eq_zero_iff.1 h0
      rfl
    · obtain ⟨ini, y, rfl⟩ : ∃ ini y, acc = ini ++ [y] := by
        rcases List.eq_nil_or_concat acc with rfl | ⟨ini, y, rfl⟩
        · exact absurd rfl h0
        · exact ⟨ini, y, by simp⟩
      have hKy := hacc.ks y (by simp)
      have hcy := k48_len hKy
      obtain ⟨g, cap, rfl⟩ : ∃ g cap, v = .slice (some ⟨g, 0, none⟩) (ini.length + 1) cap := by
        rcases hown.2 with ⟨_, h⟩ | ⟨g, cap, cur, rfl, _⟩
        · simp at h
        · exact ⟨g, cap, by simp⟩
      have hlast := own_last hown (fun z hz => k48_len (hacc.ks z (by simp [hz])))
      obtain ⟨n', hn'⟩ : ∃ n', ini.length = n' := ⟨_, rfl⟩
      have hn6 : n' ≤ 1000000 := by simp at hlen; omega
      have hLn : (ini ++ [y]).length = n' + 1 := by simp [hn']
      rw [hn'] at hX0 hlast hX hown
      rw [hLn] at hown
      have hX0' := hX0
      obtain ⟨x0, x1, x2⟩ := k48_head hK
      obtain ⟨y0, y1, y2⟩ := k48_head hKy
      have a0 : W.cell? ⟨g, n' * 31, none⟩ = _ := hlast 0 _ y0
      have a1 := hlast 1 _ y1
      have a2 := hlast 2 _ y2
      have b0 : W.cell? ⟨p, 0, none⟩ = _ := hpc 0 _ x0
      have b1 : W.cell? ⟨p, 1, none⟩ = _ := hpc 1 _ x1
      have b2 : W.cell? ⟨p, 2, none⟩ = _ := hpc 2 _ x2
      have Hlast := Lib.hid hlast
      clear hlast x0 x1 x2 y0 y1 y2
      have hu32 := Tryz.underlying32
      by_cases hst : st y.1 = st x.1
      · have tE : (y.1.f0.f0 == x.1.f0.f0 && (y.1.f0.f1 == x.1.f0.f1 && (y.1.f0.f2 == x.1.f0.f2))) = true := by
          have e0 : y.1.f0.f0 = x.1.f0.f0 := congrArg St.time hst
          have e1 : y.1.f0.f1 = x.1.f0.f1 := congrArg St.campus hst
          have e2 : y.1.f0.f2 = x.1.f0.f2 := congrArg St.no hst
          simp [e0, e1, e2]
        gi_wp2
        refine wpIn_round_quiet_lit (by kernel_rfl) (by kernel_rfl) ?_ (by kernel_rfl) ?_
        · intro a w h
          exact h
        repeat (first | (refine quiet_eql32 21 23 rfl _ _ _ _ _ _ rfl rfl rfl _ tE ?_; simp only [Act.put, List.setIfInBounds_toArray, List.set_cons_succ, List.set_cons_zero]) | go_big_quiet_step (fail) | quiet_step (fail))
        refine wpQuiet_nil ?_
        rintro _ ⟨nq, rfl⟩
        obtain ⟨W4, hW4⟩ : ∃ W4, W.drewN nq = W4 := ⟨_, rfl⟩
        rw [hW4]
        have hp4 : W4.heap = W.heap := by rw [← hW4]; rfl
        have hb4 : Below w.heap.size w W4 := by rw [← hW4]; exact below_drew hacc.below nq
        have hX4 : W4.cell? ⟨w.heap.size, 0, none⟩ = some (.slice (some ⟨g, 0, none⟩) (n' + 1) cap) := by simpa [World.cell?, hp4] using hX0'
        have hfX4 : W4.frozen? ⟨w.heap.size, 0, none⟩ = false := by simpa [World.frozen?, hp4] using hfX
        have hpc4 : ∀ j u, x.2[j]? = some u → W4.cell? ((⟨p, 0, none⟩ : Addr).add j) = some u := fun j u hu => by simpa [World.cell?, hp4] using hpc j u hu
        have hown4 : W4.ownsRow (w.heap.size + 5) 48 31 (.slice (some ⟨g, 0, none⟩) (n' + 1) cap) (n' + 1) ((ini ++ [y]).map (·.2)).flatten := own_move hown fun k _ => by rw [hp4]
        have hbig4 : w.heap.size + 5 ≤ W4.heap.size := by rw [hp4]; exact hacc.big
        have hKp4 : Kp w W W4 := ⟨by rw [hp4]; exact Nat.le_refl _, fun k o hk _ _ => by rw [hp4]; exact hk⟩
        have hX4h : W4.heap[w.heap.size]? = some (.cells #[.slice (some ⟨g, 0, none⟩) (n' + 1) cap] 22 (0, 0)) := by rw [hp4]; exact hX
        have hacc4 : Acc w (ini ++ [y]) W4 := hacc.move hb4 (by rw [hp4]; exact Nat.le_refl _) (fun k o hk _ => by rw [hp4]; exact hk)
        have hsy : (Tryz.prog.info? 48).map (·.size) = some y.2.length := by rw [hcy]; exact info48
        have hl4 : ∀ j u, y.2[j]? = some u → W4.cell? ((⟨g, n' * 31, none⟩ : Addr).add j) = some u := fun j u hu => by
          have h3 : (⟨g, n' * 31, none⟩ : Addr).add j = ⟨g, n' * 31 + j, none⟩ := by unfold Addr.add; by_cases h : j = 0 <;> simp [h]
          rw [h3]
          simpa [World.cell?, hp4] using Hlast.out j u hu
        clear hX0 hpc hp4 a0 a1 a2 b0 b1 b2
        gi_wp2
        obtain ⟨W5, hW5⟩ : ∃ W5, ({ W4 with drawn := W4.drawn + 1 } : World) = W5 := ⟨_, rfl⟩
        have hX5 : W5.cell? ⟨w.heap.size, 0, none⟩ = some (.slice (some ⟨g, 0, none⟩) (n' + 1) cap) := by rw [← hW5]; exact hX4
        have hl5 : ∀ j u, y.2[j]? = some u → W5.cell? ((⟨g, n' * 31, none⟩ : Addr).add j) = some u := by rw [← hW5]; exact hl4
        have hpc5 : ∀ j u, x.2[j]? = some u → W5.cell? ((⟨p, 0, none⟩ : Addr).add j) = some u := by rw [← hW5]; exact hpc4
        have hacc5 : Acc w (ini ++ [y]) W5 := by rw [← hW5]; exact hacc4.move ⟨hb4.os, hb4.tape, hb4.output, hb4.size, hb4.block⟩ (Nat.le_refl _) (fun k o hk _ => hk)
        have hKp5 : Kp w W W5 := by rw [← hW5]; exact ⟨hKp4.size, hKp4.same⟩
        have hKx5 : k48.K W5 x.1 x.2 := k48.K_below hacc5.below hK
        have hKy5 : k48.K W5 y.1 y.2 := k48.K_below hacc5.below hKy
        refine wpIn_round_still_tail 5 (by kernel_rfl) (by kernel_rfl) (fun a w h => h) (by kernel_rfl) ?_
        rw [hW5]
        simp only [List.take_succ_cons, List.take_zero, List.drop_succ_cons, List.drop_zero]
        clear hX4 hpc4 hl4 hX4h hown4 hbig4 hfX4
        repeat (first
          | (refine wpStill_load_at rfl 48 _ rfl ⟨g, n' * 31, none⟩ rfl y.2 _ hl5 Tryz.underlying48 rfl hsy ?_; simp only [Act.put, List.setIfInBounds_toArray, List.set_cons_succ, List.set_cons_zero])
          | (refine wpStill_load_at rfl 48 _ rfl ⟨p, 0, none⟩ rfl x.2 _ hpc5 Tryz.underlying48 rfl hsz ?_; simp only [Act.put, List.setIfInBounds_toArray, List.set_cons_succ, List.set_cons_zero])
          | (refine wpStill_index rfl 26 27 rfl g n' cap rfl rfl ?_; simp only [Act.put, List.setIfInBounds_toArray, List.set_cons_succ, List.set_cons_zero])
          | still_step)
        refine wpStill_nil ?_
        by_cases hyx : y.1 = x.1
        · have dY : decide (y.1 = x.1) = true := by simpa using hyx
          have hsame := fun W h1 h2 => same_any y.1 x.1 y.2 x.2 W h1 h2
          rw [dY] at hsame
          go_wp2_with (first
            | (go_at_call 32; refine (hsame W5 hKy5 hKx5).mono ?_; rintro e W6 ⟨rfl, hB6⟩)
            | (go_at_call 34; refine (demand_ok _ _).mono ?_; rintro e W7 ⟨rfl, rfl⟩))
          gi_wp2
          have hb6 := hacc5.below.trans (hB6.mono hacc5.below.size)
          have hst' : st y.1 = st x.1 := hst
          exact ⟨⟨ini ++ [y], by simp [foldJ, hyx], by omega, hacc5.move hb6 hB6.size (fun k o hk _ => (hB6.block k (Array.getElem?_eq_some_iff.1 hk).1).trans hk)⟩, hKp5.of_below hB6⟩
        · have dY : decide (y.1 = x.1) = false := by simpa using hyx
          have hsame := fun W h1 h2 => same_any y.1 x.1 y.2 x.2 W h1 h2
          rw [dY] at hsame
          go_wp2_with (first
            | (go_at_call 32; refine (hsame W5 hKy5 hKx5).mono ?_; rintro e W6 ⟨rfl, hB6⟩)
            | (go_at_call 34; refine (demand_no _ _).mono ?_; rintro e W7 ⟨rfl, rfl⟩))
          have hb6 := hacc5.below.trans (hB6.mono hacc5.below.size)
          have hst' : st y.1 = st x.1 := hst
          exact ⟨rfl, rfl, by simp [foldJ, hst', hyx], hb6, hKp5.of_below hB6⟩
      · have tE : (y.1.f0.f0 == x.1.f0.f0 && (y.1.f0.f1 == x.1.f0.f1 && (y.1.f0.f2 == x.1.f0.f2))) = false := by
          refine Bool.eq_false_iff.2 fun h => hst ?_
          simp only [Bool.and_eq_true, beq_iff_eq] at h
          exact Ldg.St.ext_ h.1 h.2.1 h.2.2
        gi_wp2
        refine wpIn_round_quiet_lit (by kernel_rfl) (by kernel_rfl) ?_ (by kernel_rfl) ?_
        · intro a w h
          exact h
        repeat (first | (refine quiet_eql32 21 23 rfl _ _ _ _ _ _ rfl rfl rfl _ tE ?_; simp only [Act.put, List.setIfInBounds_toArray, List.set_cons_succ, List.set_cons_zero]) | go_big_quiet_step (fail) | quiet_step (fail))
        refine wpQuiet_nil ?_
        rintro _ ⟨nq, rfl⟩
        obtain ⟨W4, hW4⟩ : ∃ W4, W.drewN nq = W4 := ⟨_, rfl⟩
        rw [hW4]
        have hp4 : W4.heap = W.heap := by rw [← hW4]; rfl
        have hb4 : Below w.heap.size w W4 := by rw [← hW4]; exact below_drew hacc.below nq
        have hX4 : W4.cell? ⟨w.heap.size, 0, none⟩ = some (.slice (some ⟨g, 0, none⟩) (n' + 1) cap) := by simpa [World.cell?, hp4] using hX0'
        have hfX4 : W4.frozen? ⟨w.heap.size, 0, none⟩ = false := by simpa [World.frozen?, hp4] using hfX
        have hpc4 : ∀ j u, x.2[j]? = some u → W4.cell? ((⟨p, 0, none⟩ : Addr).add j) = some u := fun j u hu => by simpa [World.cell?, hp4] using hpc j u hu
        have hown4 : W4.ownsRow (w.heap.size + 5) 48 31 (.slice (some ⟨g, 0, none⟩) (n' + 1) cap) (n' + 1) ((ini ++ [y]).map (·.2)).flatten := own_move hown fun k _ => by rw [hp4]
        have hbig4 : w.heap.size + 5 ≤ W4.heap.size := by rw [hp4]; exact hacc.big
        have hKp4 : Kp w W W4 := ⟨by rw [hp4]; exact Nat.le_refl _, fun k o hk _ _ => by rw [hp4]; exact hk⟩
        have hX4h : W4.heap[w.heap.size]? = some (.cells #[.slice (some ⟨g, 0, none⟩) (n' + 1) cap] 22 (0, 0)) := by rw [hp4]; exact hX
        have Hp4 := Lib.hid hp4
        clear hX0 hpc hp4
        obtain ⟨i0, z0', hi, hz0, hz1, hz2, hz3⟩ := i48
        gi_wp2_with (first
          | (refine wpListIn_load_at free_round rfl 48 _ rfl ⟨p, 0, none⟩ rfl x.2 _ hpc4 Tryz.underlying48 rfl hsz ?_)
          | (refine wpListIn_build1 free_round rfl 22 48 _ rfl x.2 rfl i0 z0' Tryz.underlying22 hi hz0 (by rw [hz1, hcl]) (by omega) (by omega) (by rw [hz3, hcl]) ?_)
          | (gi_at_builtin; refine wpListIn_append_own _ rfl _ _ 22 rfl (w.heap.size + 5) 48 i0 z0' 31 320 Tryz.underlying22 hi hz0 hz1 hz2 hz3 (by decide) _ (n' + 1) ((ini ++ [y]).map (·.2)).flatten rfl (hown4.alloc _) ⟨W4.heap.size, 0, none⟩ 1 1 x.2 rfl (by omega) (row_new W4 x.2 48) (fun u hu => by simpa using Array.all_eq_true_iff_forall_mem.1 hone u (by simpa using hu)) (by have : maxLen = 9223372036854775807 := rfl; omega) (by omega) (by simp; omega) ?_; intro v' w3 hown' hg3 hnil3; obtain ⟨g', cap', rfl⟩ := ownsRow_succ hown'; have hX3h := x_after hX4h hown4 hg3; have hX3 : w3.cell? ⟨w.heap.size, 0, none⟩ = _ := cell_of_row w3 w.heap.size 0 _ 22 (0, 0) hX3h; have hfX3 : w3.frozen? ⟨w.heap.size, 0, none⟩ = false := by simp [World.frozen?, hX3h]))
        obtain ⟨d1, d2⟩ := body_done hLn hb4 Hp4.out hX4h hown4 hbig4 hK hacc.ks hown' hg3
        refine ⟨⟨(ini ++ [y]) ++ [x], ?_, by simp, d1⟩, d2⟩
        have hst' : ¬ st y.1 = st x.1 := hst
        simp [foldJ, hst']
  case en =>
    rintro e W' (⟨v, rfl, acc, h1, h2, h3, h4, h5⟩ | ⟨ch, rfl, rfl, h2, h3, h4⟩)
    · refine ⟨_, h4, by simp, rfl, ?_⟩
      generalize hW8 : World.putObj _ _ _ = W8
      have hlt4 := (Array.getElem?_eq_some_iff.1 h4).1
      have hacc8 : Acc w acc W8 := by
        rw [← hW8]
        exact h3.move (putObj_below h3.below _ (by omega) hlt4) (by simp [World.putObj]) (fun k o hk hh => (putObj_other _ _ _ (by omega)).trans hk)
      have hD8 : W8.heap[w.heap.size + 3]? = some (.deferred (some [])) := by rw [← hW8]; exact (putObj_other _ _ _ (by omega)).trans h5
      clear hW8
      have hfold := h1
      rw [mrg_map] at hfold
      have hcamA : ∀ x ∈ acc.map (·.1), 0 ≤ x.f0.f1 ∧ x.f0.f1 ≤ 6 := by
        intro x hx
        rcases foldJ_mem st _ _ _ h1 x hx with h | h
        · simp at h
        · obtain ⟨z, hz, rfl⟩ := List.mem_map.1 h
          exact hcam z (List.mem_append.2 ((Ldg.mem_mrg _ _ z).1 hz))
      obtain ⟨AX, cX, hX8, hlc8, hC8⟩ := acc_row hacc8
      have hXc8 : W8.cell? ⟨w.heap.size, 0, none⟩ = _ := cell_of_row W8 w.heap.size 0 _ 22 (0, 0) hX8
      have hfit := fit_any AX cX (acc.map (·.1)) W8 (by simpa using hC8) hcamA
      rw [List.length_map] at hfit
      show wpF _ _ _ _ _ _ _ _
      refine wpF_of ?_
      dsimp only
      by_cases hfE : Ldg.fitE st (acc.map (·.1)) = true
      · rw [hfE] at hfit
        gi_wp2
        refine ⟨trivial, ((callsIn_wide (n := 4)).2 hfit).mono ?_⟩
        rintro e9 W9 ⟨rfl, hb9⟩
        have hacc9 : Acc w acc W9 := hacc8.move (hacc8.below.trans (hb9.mono hacc8.below.size)) hb9.size (fun k o hk _ => (hb9.block k (Array.getElem?_eq_some_iff.1 hk).1).trans hk)
        have hD9 : W9.heap[w.heap.size + 3]? = some (.deferred (some [])) := (hb9.block _ (Array.getElem?_eq_some_iff.1 hD8).1).trans hD8
        obtain ⟨AY, cY, hX9, hlc9, hC9⟩ := acc_row hacc9
        have hXc9 : W9.cell? ⟨w.heap.size, 0, none⟩ = _ := cell_of_row W9 w.heap.size 0 _ 22 (0, 0) hX9
        have hXf9 : W9.frozen? ⟨w.heap.size, 0, none⟩ = false := by simp [World.frozen?, hX9]
        gi_wp2
        refine ⟨trivial, ((callsIn_wide (n := 4)).2 (demand_ok 390 W9)).mono ?_⟩
        rintro e10 W10 ⟨rfl, rfl⟩
        by_cases hle : acc.length ≤ 65536
        · have dle : decide ((acc.length : Int) ≤ 65536) = true := by simp only [decide_eq_true_eq]; omega
          have dle' : decide (acc.length ≤ 65536) = true := by simpa using hle
          gi_wp2
          refine ⟨trivial, ((callsIn_wide (n := 4)).2 (demand_ok 2 W9)).mono ?_⟩
          rintro e11 W11 ⟨rfl, rfl⟩
          gi_wp2
          generalize hW12 : W9.setCell ⟨w.heap.size, 0, none⟩ (.slice AY acc.length cY) = W12
          have hb12 : Below w.heap.size w W12 := by rw [← hW12]; exact hacc9.below.setCell (p := ⟨w.heap.size, 0, none⟩) (Nat.le_refl _) _
          have hD12 : W12.heap[w.heap.size + 3]? = some (.deferred (some [])) := by rw [← hW12]; exact (set_other _ _ _ _ (by omega)).trans hD9
          have hX12 : W12.heap[w.heap.size]? = some (.cells #[.slice AY acc.length cY] 22 (0, 0)) := by rw [← hW12]; exact box_set _ _ _ _ _ hX9
          have hacc12 : Acc w acc W12 := hacc9.move hb12 (by rw [← hW12]; simp) (fun k o hk hh => by
            rcases hh with rfl | ⟨hge, _⟩
            · rw [hX9] at hk; rw [hX12]; exact hk
            · rw [← hW12]; exact (set_other _ _ _ _ (by omega)).trans hk)
          have hlt3 := (Array.getElem?_eq_some_iff.1 hD12).1
          refine ⟨by simp, .inl ⟨w.heap.size + 3, _, rfl, run_takeDeferred hD12, ?_⟩⟩
          generalize hW13 : W12.putObj (w.heap.size + 3) (.deferred none) = W13
          have hb13 : Below w.heap.size w W13 := by rw [← hW13]; exact putObj_below hb12 _ (by omega) hlt3
          have hacc13 : Acc w acc W13 := hacc12.move hb13 (by rw [← hW13]; simp [World.putObj]) (fun k o hk hh => by rw [← hW13]; exact (putObj_other _ _ _ (by omega)).trans hk)
          obtain ⟨AZ, cZ, hX13, hlc13, hC13⟩ := acc_row hacc13
          have hXc13 : W13.cell? ⟨w.heap.size, 0, none⟩ = _ := cell_of_row W13 w.heap.size 0 _ 22 (0, 0) hX13
          refine ⟨.slice AZ acc.length cZ, by simp [results, Tryz.results24, go_sem, hXc13], hb13, ?_⟩
          simp only [Ldg.joinR, hfold, hfE, if_true, List.length_map, if_pos hle]
          exact ⟨AZ, cZ, rfl, hlc13, by simpa using hC13⟩
        · have dle : decide ((acc.length : Int) ≤ 65536) = false := by simp only [decide_eq_false_iff_not]; omega
          have dle' : decide (acc.length ≤ 65536) = false := by simpa using hle
          gi_wp2
          refine ⟨trivial, ((callsIn_wide (n := 4)).2 (demand_no 2 W9)).mono ?_⟩
          rintro e11 W11 ⟨rfl, rfl⟩
          refine ⟨by simp, .inl ⟨w.heap.size + 3, _, rfl, run_takeDeferred hD9, ?_⟩⟩
          have hlt3 := (Array.getElem?_eq_some_iff.1 hD9).1
          refine ⟨putObj_below hacc9.below _ (by omega) hlt3, ?_⟩
          simp only [Ldg.joinR, hfold, hfE, if_true, List.length_map, if_neg hle]
      · have hfE' : Ldg.fitE st (acc.map (·.1)) = false := by simpa using hfE
        rw [hfE'] at hfit
        gi_wp2
        refine ⟨trivial, ((callsIn_wide (n := 4)).2 hfit).mono ?_⟩
        rintro e9 W9 ⟨rfl, hb9⟩
        gi_wp2
        refine ⟨trivial, ((callsIn_wide (n := 4)).2 (demand_no 390 W9)).mono ?_⟩
        rintro e10 W10 ⟨rfl, rfl⟩
        have hD9 : W9.heap[w.heap.size + 3]? = some (.deferred (some [])) := (hb9.block _ (Array.getElem?_eq_some_iff.1 hD8).1).trans hD8
        have hlt3 := (Array.getElem?_eq_some_iff.1 hD9).1
        refine ⟨by simp, .inl ⟨w.heap.size + 3, _, rfl, run_takeDeferred hD9, ?_⟩⟩
        refine ⟨putObj_below (hacc8.below.trans (hb9.mono hacc8.below.size)) _ (by omega) hlt3, ?_⟩
        simp only [Ldg.joinR, hfold, hfE', Bool.false_eq_true, if_false]
    · refine ⟨by simp, .inl ⟨w.heap.size + 3, _, rfl, run_takeDeferred h4, ?_⟩⟩
      have hlt3 := (Array.getElem?_eq_some_iff.1 h4).1
      refine ⟨putObj_below h3 _ (by omega) hlt3, ?_⟩
      rw [mrg_map] at h2
      simp only [Ldg.joinR, h2]
theorem joined_any (A B : Option Addr) (ca cb : Nat) (la lb : List S48) (w : World) (ha : Kd.C k48 w A la.length la) (hca : la.length ≤ ca) (hb : Kd.C k48 w B lb.length lb) (hcb : lb.length ≤ cb)
    (hcam : ∀ x ∈ la ++ lb, 0 ≤ x.f0.f1 ∧ x.f0.f1 ≤ 6) (hn : la.length + lb.length ≤ 1000000) :
    Calls Tryz.prog 24 #[.slice A la.length ca, .slice B lb.length cb] w (JoinPost w (Ldg.joinR st la lb)) := by
  obtain ⟨ra, rfl, hra⟩ := row_of ha
  obtain ⟨rb, rfl, hrb⟩ := row_of hb
  simp only [List.length_map] at hca hcb hn ⊢
  refine joined_ec A B ca cb ra rb w hra hca hrb hcb (fun x hx => hcam x.1 ?_) hn
  rcases List.mem_append.1 hx with h | h
  · exact List.mem_append.2 (.inl (List.mem_map.2 ⟨x, h, rfl⟩))
  · exact List.mem_append.2 (.inr (List.mem_map.2 ⟨x, h, rfl⟩))
end Go.Proofs.Lw
end
section
set_option linter.unusedSimpArgs false
set_option linter.unusedVariables false
namespace Go.Proofs.Lw
open Go.RowKit Go.Sort Go.Proofs.YtehddihmndpgaaaGreatDoorW.PrintWords Go.Proofs.YtehddihmndpgaaaGreatDoor.PLib
open Ldg (St cmpS)
theorem setCell_same {w : World} {b : Nat} {v : Value} {t : TypeId} {fr : Nat × Nat} (h : w.heap[b]? = some (.cells #[v] t fr)) : w.setCell ⟨b, 0, none⟩ v = w := by
  have : (w.setCell ⟨b, 0, none⟩ v).heap = w.heap := by
    apply Array.ext_getElem?
    intro k
    by_cases hk : k = b
    · subst hk; simp [World.setCell, Array.getElem?_modify, h]
    · exact set_other w b 0 v hk
  cases w
  simpa [World.setCell] using this
def MergePost (w : World) (r : Except Int (List S48)) (e : Ending) (w' : World) : Prop := Below w.heap.size w w' ∧
  (match r with
   | .ok x => ∃ A c, e = .returned (.tuple #[.slice A x.length c, .int .i64 0]) ∧ x.length ≤ c ∧ Kd.C k48 w' A x.length x
   | .error z => e = .returned (.tuple #[.slice none 0 0, .int .i64 z]))
theorem cam_of {G : World → Prop} {chk : S48 → Int} (hC : Chk G chk) {l : List S48} (h : Ldg.checkR st chk l = 0) : ∀ x ∈ l, 0 ≤ x.f0.f1 ∧ x.f0.f1 ≤ 6 := by
  have h2 : Ldg.chkL chk l = 0 := by
    unfold Ldg.checkR at h
    by_cases hb : 65536 < l.length
    · rw [if_pos hb] at h; cases h
    · rw [if_neg hb] at h
      by_cases hc : Ldg.chkL chk l = 0
      · exact hc
      · rw [if_pos hc] at h; exact absurd h hc
  clear h
  intro x hx
  have h3 : chk x = 0 := by
    induction l with
    | nil => simp at hx
    | cons n r ih =>
      simp only [Ldg.chkL] at h2
      by_cases h0 : chk n = 0
      · rw [if_neg (by simpa using h0)] at h2
        rcases List.mem_cons.1 hx with rfl | hx
        · exact h0
        · exact ih h2 hx
      · rw [if_pos h0] at h2; exact absurd h2 h0
  have := hC.st x h3
  exact ⟨this.2.2.1, this.2.2.2.1⟩
theorem len_of {chk : S48 → Int} {l : List S48} (h : Ldg.checkR st chk l = 0) : l.length ≤ 65536 := by
  unfold Ldg.checkR at h
  by_cases hb : 65536 < l.length
  · rw [if_pos hb] at h; cases h
  · omega
set_option maxHeartbeats 8000000
set_option maxRecDepth 100000 in
theorem merge_any {G : World → Prop} {chk : S48 → Int} (hC : Chk G chk) (A B : Option Addr) (ca cb : Nat) (la lb : List S48) (w : World) (ha : Kd.C k48 w A la.length la) (hca : la.length ≤ ca) (hb : Kd.C k48 w B lb.length lb) (hcb : lb.length ≤ cb) (hGw : G w) :
    Calls Tryz.prog 10 #[.slice A la.length ca, .slice B lb.length cb] w (MergePost w (Ldg.mergeR st chk la lb)) := by
  have hmf : ∀ (fn : Fn) (first cap : Array Value) (w : World), (Instr.makeFunc fn first cap).run Tryz.prog w = .ok (.func fn first cap) w := fun _ _ _ _ => rfl
  obtain ⟨W1, hW1⟩ : ∃ W1, w.alloc (.cells #[.int .i64 0] 25) = W1 := ⟨_, rfl⟩
  have hB1 : Below w.heap.size w W1 := by rw [← hW1]; exact (Below.refl _ w).alloc (Nat.le_refl _) _
  have hH1 : W1.heap[w.heap.size]? = some (.cells #[.int .i64 0] 25 (0, 0)) := by rw [← hW1]; exact heap_alloc_new w _
  have cA := check_any hC A ca la W1 (Kd.C_below ha hB1) (hC.keep _ _ hGw hB1)
  obtain ⟨za, hza⟩ : ∃ za, Ldg.checkR st chk la = za := ⟨_, rfl⟩
  rw [hza] at cA
  have keepB : ∀ W, Below W1.heap.size W1 W → Below w.heap.size w W := fun W h => hB1.trans (h.mono hB1.size)
  have keepH : ∀ W, Below W1.heap.size W1 W → W.heap[w.heap.size]? = some (.cells #[.int .i64 0] 25 (0, 0)) := fun W h => (h.block _ (Array.getElem?_eq_some_iff.1 hH1).1).trans hH1
  have fail : ∀ (z : Int) (W : World), Below w.heap.size w W → W.heap[w.heap.size]? = some (.cells #[.int .i64 0] 25 (0, 0)) →
      CallsD Tryz.prog 21 #[.pointer (some ⟨w.heap.size, 0, none⟩)] (.panicking (failV z)) W fun r u' w' => r = .returned (.tuple #[]) ∧ u' = .panicking [{ v := .iface 81 (.agg #[.int .i64 z]), recovered := true }] ∧
        w' = (W.alloc (.cells #[.int .i64 z] 81)).setCell ⟨w.heap.size, 0, none⟩ (.int .i64 z) := fun z W _ hH =>
    mergeDefer_fail ⟨w.heap.size, 0, none⟩ z (.int .i64 0) W (cell_of_row W w.heap.size 0 _ 25 (0, 0) hH) (by simp [World.frozen?, hH]) (Array.getElem?_eq_some_iff.1 hH).1
  go_enter_defers Tryz.func10, Tryz.ntmps10
  by_cases ea : za = 0
  · subst ea
    obtain ⟨zb, hzb⟩ : ∃ zb, Ldg.checkR st chk lb = zb := ⟨_, rfl⟩
    have cB := fun W (h : Below W1.heap.size W1 W) => check_any hC B cb lb W (Kd.C_below hb (keepB W h)) (hC.keep _ _ hGw (keepB W h))
    rw [hzb] at cB
    by_cases eb : zb = 0
    · subst eb
      have hcam : ∀ x ∈ la ++ lb, 0 ≤ x.f0.f1 ∧ x.f0.f1 ≤ 6 := fun x hx => by
        rcases List.mem_append.1 hx with hx | hx
        · exact cam_of hC hza x hx
        · exact cam_of hC hzb x hx
      have hlen : la.length + lb.length ≤ 1000000 := by have := len_of hza; have := len_of hzb; omega
      have cJ := fun W (h : Below W1.heap.size W1 W) => joined_any A B ca cb la lb W (Kd.C_below ha (keepB W h)) hca (Kd.C_below hb (keepB W h)) hcb hcam hlen
      obtain ⟨r, hr⟩ : ∃ r, Ldg.joinR st la lb = r := ⟨_, rfl⟩
      rw [hr] at cJ
      have hm : Ldg.mergeR st chk la lb = r := by unfold Ldg.mergeR; rw [if_neg (by simp [hza]), if_neg (by simp [hzb]), hr]
      rw [hm]
      cases r with
      | ok x =>
        go_wp2_with (first
          | (go_at_call 9; refine (cB _ hB2).mono ?_; rintro e W3 ⟨rfl, hB3⟩)
          | (go_at_call 9; refine cA.mono ?_; rintro e W2 ⟨rfl, hB2⟩)
          | (go_at_call 23; refine (try_ok _).mono ?_; rintro e W4 ⟨rfl, rfl⟩)
          | (go_at_call 24; refine (cJ _ (hB2.trans (hB3.mono hB2.size))).mono ?_; rintro e W5 ⟨hB5, AX, cX, rfl, hlX, hCX⟩; have hB13 := hB2.trans (hB3.mono hB2.size); have hB15 := hB13.trans (hB5.mono hB13.size); have kh := keepH _ hB15; have kc : W5.cell? ⟨w.heap.size, 0, none⟩ = _ := cell_of_row W5 w.heap.size 0 _ 25 (0, 0) kh; have kf : W5.frozen? ⟨w.heap.size, 0, none⟩ = false := by simp [World.frozen?, kh]))
        have kb := keepB _ hB15
        rw [setCell_same kh]
        refine leaves_cons (f := 21) (args := #[.pointer (some ⟨w.heap.size, 0, none⟩)]) (by simp) (by simp [go_sem]) ?_
        refine (mergeDefer_idle ⟨w.heap.size, 0, none⟩ _).mono ?_
        rintro e u' w'' ⟨rfl, rfl, rfl⟩
        exact ⟨.tuple #[.slice AX x.length cX, .int .i64 0], by simp [results, Tryz.results10, go_sem, kc], kb, AX, cX, rfl, hlX, hCX⟩
      | error z =>
        go_wp2_with (first
          | (go_at_call 9; refine (cB _ hB2).mono ?_; rintro e W3 ⟨rfl, hB3⟩)
          | (go_at_call 9; refine cA.mono ?_; rintro e W2 ⟨rfl, hB2⟩)
          | (go_at_call 23; refine (try_ok _).mono ?_; rintro e W4 ⟨rfl, rfl⟩)
          | (go_at_call 24; refine (cJ _ (hB2.trans (hB3.mono hB2.size))).mono ?_; rintro e W5 ⟨hB5, rfl⟩))
        have hB13 := hB2.trans (hB3.mono hB2.size)
        have hB15 := hB13.trans (hB5.mono hB13.size)
        have kb := keepB _ hB15
        have kh := keepH _ hB15
        refine leaves_cons (f := 21) (args := #[.pointer (some ⟨w.heap.size, 0, none⟩)]) (by simp) (by simp [go_sem]) ?_
        refine (fail z W5 kb kh).mono ?_
        rintro e u' w'' ⟨rfl, rfl, rfl⟩
        have hlt := (Array.getElem?_eq_some_iff.1 kh).1
        have hc : ((W5.alloc (.cells #[.int .i64 z] 81)).setCell ⟨w.heap.size, 0, none⟩ (.int .i64 z)).cell? ⟨w.heap.size, 0, none⟩ = some (.int .i64 z) :=
          cell_of_row _ w.heap.size 0 _ 25 (0, 0) (box_set _ _ _ _ _ ((alloc_old W5 _ hlt).trans kh))
        refine ⟨.tuple #[.slice none 0 0, .int .i64 z], by simp [results, Tryz.results10, go_sem, hc], (kb.alloc kb.size _).setCell (p := ⟨w.heap.size, 0, none⟩) (Nat.le_refl _) _, ?_⟩
        rfl
    · go_wp2_with (first
        | (go_at_call 9; refine (cB _ hB2).mono ?_; rintro e W3 ⟨rfl, hB3⟩)
        | (go_at_call 9; refine cA.mono ?_; rintro e W2 ⟨rfl, hB2⟩)
        | (go_at_call 23; have hx := hB3; refine (try_no _ eb _).mono ?_; rintro e W5 ⟨rfl, rfl⟩)
        | (go_at_call 23; refine (try_ok _).mono ?_; rintro e W4 ⟨rfl, rfl⟩))
      have hB13 := hB2.trans (hB3.mono hB2.size)
      have kb := keepB _ hB13
      have kh := keepH _ hB13
      refine leaves_cons (f := 21) (args := #[.pointer (some ⟨w.heap.size, 0, none⟩)]) (by simp) (by simp [go_sem]) ?_
      refine (fail zb W3 kb kh).mono ?_
      rintro e u' w'' ⟨rfl, rfl, rfl⟩
      have hlt := (Array.getElem?_eq_some_iff.1 kh).1
      have hc : ((W3.alloc (.cells #[.int .i64 zb] 81)).setCell ⟨w.heap.size, 0, none⟩ (.int .i64 zb)).cell? ⟨w.heap.size, 0, none⟩ = some (.int .i64 zb) :=
        cell_of_row _ w.heap.size 0 _ 25 (0, 0) (box_set _ _ _ _ _ ((alloc_old W3 _ hlt).trans kh))
      refine ⟨.tuple #[.slice none 0 0, .int .i64 zb], by simp [results, Tryz.results10, go_sem, hc], (kb.alloc kb.size _).setCell (p := ⟨w.heap.size, 0, none⟩) (Nat.le_refl _) _, ?_⟩
      unfold Ldg.mergeR; rw [if_neg (by simp [hza]), if_pos (by rw [hzb]; exact eb), hzb]
  · go_wp2_with (first
      | (go_at_call 9; refine cA.mono ?_; rintro e W2 ⟨rfl, hB2⟩)
      | (go_at_call 23; refine (try_no _ ea _).mono ?_; rintro e W3 ⟨rfl, rfl⟩))
    have kb := keepB _ hB2
    have kh := keepH _ hB2
    refine leaves_cons (f := 21) (args := #[.pointer (some ⟨w.heap.size, 0, none⟩)]) (by simp) (by simp [go_sem]) ?_
    refine (fail za W2 kb kh).mono ?_
    rintro e u' w'' ⟨rfl, rfl, rfl⟩
    have hlt := (Array.getElem?_eq_some_iff.1 kh).1
    have hc : ((W2.alloc (.cells #[.int .i64 za] 81)).setCell ⟨w.heap.size, 0, none⟩ (.int .i64 za)).cell? ⟨w.heap.size, 0, none⟩ = some (.int .i64 za) :=
      cell_of_row _ w.heap.size 0 _ 25 (0, 0) (box_set _ _ _ _ _ ((alloc_old W2 _ hlt).trans kh))
    refine ⟨.tuple #[.slice none 0 0, .int .i64 za], by simp [results, Tryz.results10, go_sem, hc], (kb.alloc kb.size _).setCell (p := ⟨w.heap.size, 0, none⟩) (Nat.le_refl _) _, ?_⟩
    unfold Ldg.mergeR; rw [if_pos (by rw [hza]; exact ea), hza]
end Go.Proofs.Lw
end
section
set_option linter.unusedSimpArgs false
set_option linter.unusedVariables false
namespace Go.Proofs.Lw
open Go.RowKit Go.Sort Go.Proofs.YtehddihmndpgaaaGreatDoorW.PrintWords Go.Proofs.YtehddihmndpgaaaGreatDoor.PLib
open Ldg (St cmpS)
theorem beq3 (x y : S48) : (x.f0.f0 == y.f0.f0 && (x.f0.f1 == y.f0.f1 && (x.f0.f2 == y.f0.f2))) = decide (st x = st y) := by
  have : st x = st y ↔ x.f0.f0 = y.f0.f0 ∧ x.f0.f1 = y.f0.f1 ∧ x.f0.f2 = y.f0.f2 := by
    unfold st
    exact ⟨fun h => ⟨congrArg St.time h, congrArg St.campus h, congrArg St.no h⟩, fun h => Ldg.St.ext_ h.1 h.2.1 h.2.2⟩
  by_cases h : st x = st y
  · have h' := this.1 h
    simp [h, h']
  · have h' : ¬ (x.f0.f0 = y.f0.f0 ∧ x.f0.f1 = y.f0.f1 ∧ x.f0.f2 = y.f0.f2) := fun h2 => h (this.2 h2)
    simp only [h, decide_false]
    refine Bool.eq_false_iff.2 fun h2 => h' ?_
    simpa using h2
set_option maxHeartbeats 8000000
set_option maxRecDepth 100000 in
theorem put2_any (x y : S48) (cs ds : List Value) (b : Nat) (w : World) (hK : k48.K w x cs) (hKy : k48.K w y ds) (hb : w.heap[b]? = some (.cells ds.toArray 48 (0, 0))) :
    Calls Tryz.prog 27 #[.agg cs.toArray, .pointer (some ⟨b, 0, none⟩)] w fun r w' => r = .returned (.bool (decide (st x = st y))) ∧ Below w.heap.size w w' := by
  have hu32 := Tryz.underlying32
  have hcl := k48_len hK
  have hlt := (Array.getElem?_eq_some_iff.1 hb).1
  have hsz : (Tryz.prog.info? 48).map (·.size) = some cs.length := by rw [hcl]; exact info48
  have hone := k48_one hK
  obtain ⟨x0, x1, x2⟩ := k48_head hK
  obtain ⟨y0, y1, y2⟩ := k48_head hKy
  have b0 : w.cell? ⟨b, 0, none⟩ = some (.int .i64 y.f0.f0) := (cell_of_row w b 0 _ 48 (0, 0) hb).trans (by simpa using y0)
  have b1 : w.cell? ⟨b, 1, none⟩ = some (.int .i64 y.f0.f1) := (cell_of_row w b 1 _ 48 (0, 0) hb).trans (by simpa using y1)
  have b2 : w.cell? ⟨b, 2, none⟩ = some (.int .i64 y.f0.f2) := (cell_of_row w b 2 _ 48 (0, 0) hb).trans (by simpa using y2)
  obtain ⟨_, x0⟩ := List.getElem?_eq_some_iff.1 x0
  obtain ⟨_, x1⟩ := List.getElem?_eq_some_iff.1 x1
  obtain ⟨_, x2⟩ := List.getElem?_eq_some_iff.1 x2
  clear y0 y1 y2
  have hb3 := beq3 x y
  go_enter Tryz.func27, Tryz.ntmps27
  go_wp2
  all_goals (go_ret; refine ⟨ret_b ?_, (Below.refl _ _).alloc (Nat.le_refl _) _⟩; rw [← hb3]; clear hb3 hsz hone hb)
  all_goals simp_all
def idxR (y : S48) : List S48 → Nat → Int
  | [], _ => -1
  | x :: r, k => if st x = st y then k else idxR y r (k + 1)
set_option maxHeartbeats 8000000
set_option maxRecDepth 100000 in
theorem index_any (A : Option Addr) (c : Nat) (l : List S48) (y : S48) (ds : List Value) (b : Nat) (w : World) (h : Kd.C k48 w A l.length l) (hKy : k48.K w y ds) (hb : w.heap[b]? = some (.cells ds.toArray 48 (0, 0))) :
    Calls Tryz.prog 26 #[.slice A l.length c, .func (.func 27) #[] #[.pointer (some ⟨b, 0, none⟩)]] w fun r w' => r = .returned (.int .i64 (idxR y l 0)) ∧ Below w.heap.size w w' := by
  have hN : l.length ≤ 9223372036854775807 := h.2.1
  have hbl := (Array.getElem?_eq_some_iff.1 hb).1
  go_enter Tryz.func26, Tryz.ntmps26
  go_wp2
  go_loopw [8] (fun i wr => ∃ k : Nat, k ≤ l.length ∧ i = .int .i64 k ∧ idxR y (l.drop k) k = idxR y l 0 ∧ Below w.heap.size w wr)
    (fun i _ => l.length - (intOf i).toNat)
  case atStart => exact ⟨0, Nat.zero_le _, rfl, rfl, Below.refl _ _⟩
  case round =>
    obtain ⟨k, hk, rfl, hd, hB⟩ := hrel
    by_cases hlt : k < l.length
    · obtain ⟨ad, cs, rfl, hK, hcell⟩ := ent_at h k hlt
      have hcw : ∀ j u, cs[j]? = some u → wr.cell? ((ad.add (k * 31)).add j) = some u := fun j u hu => pw_cell_below hB (hcell j u hu)
      have hcl := k48_len hK
      have hsz : (Tryz.prog.info? 48).map (·.size) = some cs.length := by rw [hcl]; exact info48
      have hcall := put2_any l[k] y cs ds b wr (k48.K_below hB hK) (k48.K_below hB hKy) ((hB.block b hbl).trans hb)
      rw [List.drop_eq_getElem_cons hlt] at hd
      have Hd := Lib.hid hd
      have HB := Lib.hid hB
      clear hd hB
      by_cases h0 : st l[k] = st y
      · have d0 : decide (st l[k] = st y) = true := by simpa using h0
        rw [d0] at hcall
        go_wp2_with (first
          | (go_at_call 27; refine hcall.mono ?_; rintro e W2 ⟨rfl, hB2⟩)
          | (refine wpList_load_at rfl 48 _ rfl (ad.add (k * 31)) rfl cs _ hcw Tryz.underlying48 rfl hsz ?_))
        go_ret
        refine ⟨ret_i ?_, HB.out.trans (hB2.mono HB.out.size)⟩
        have := Hd.out
        simp only [idxR, h0, if_true] at this
        exact this
      · have d0 : decide (st l[k] = st y) = false := by simpa using h0
        rw [d0] at hcall
        go_wp2_with (first
          | (go_at_call 27; refine hcall.mono ?_; rintro e W2 ⟨rfl, hB2⟩)
          | (refine wpList_load_at rfl 48 _ rfl (ad.add (k * 31)) rfl cs _ hcw Tryz.underlying48 rfl hsz ?_))
        go_roundw
        case rel =>
          refine ⟨k + 1, by omega, by go_num, ?_, HB.out.trans (hB2.mono HB.out.size)⟩
          have := Hd.out
          simp only [idxR, h0, if_false] at this
          exact this
        case measure => simp [intOf]; omega
    · have hd' : idxR y l 0 = -1 := by rw [← hd, List.drop_eq_nil_of_le (by omega)]; rfl
      have Hd := Lib.hid hd'
      clear hd hd'
      go_wp2
      go_ret
      exact ⟨ret_i Hd.out.symm, hB⟩
def PutPost (y : S48) (w : World) (r : Except Int (List S48)) (e : Ending) (w' : World) : Prop := Below w.heap.size w w' ∧
  (match r with
   | .ok x => ∃ A c, e = .returned (.tuple #[.slice A x.length c, .int .i64 (idxR y x 0), .int .i64 0]) ∧ x.length ≤ c ∧ Kd.C k48 w' A x.length x
   | .error z => e = .returned (.tuple #[.slice none 0 0, .int .i64 0, .int .i64 z]))
set_option maxRecDepth 100000 in
theorem putDefer_fail (p : Addr) (e : Int) (old : Value) (w : World) (hc : w.cell? p = some old) (hf : w.frozen? p = false) (hp : p.block < w.heap.size) :
    CallsD Tryz.prog 25 #[.pointer (some p)] (.panicking (failV e)) w fun r u' w' =>
      r = .returned (.tuple #[]) ∧ u' = .panicking [{ v := .iface 81 (.agg #[.int .i64 e]), recovered := true }] ∧ w' = (w.alloc (.cells #[.int .i64 e] 81)).setCell p (.int .i64 e) := by
  refine callsD_of_wpS Tryz.func25 rfl fun c₀ cs hu => ?_
  apply wpS_region
  simp [wpOpsS, go_sem, recoverD, hu, failV, Tryz.ntmps25]
  refine (caught_fail p e old w hc hf hp).mono ?_
  rintro r w' ⟨rfl, rfl⟩
  simp [bodyPostS, results, Tryz.results25, go_sem]
theorem putDefer_idle (p : Addr) (w : World) :
    CallsD Tryz.prog 25 #[.pointer (some p)] .returning w fun r u' w' => r = .returned (.tuple #[]) ∧ u' = .returning ∧ w' = w := by
  refine callsD_of_wpS Tryz.func25 rfl fun c₀ cs hu => ?_
  apply wpS_region
  simp [wpOpsS, go_sem, recoverD, hu, Tryz.ntmps25]
  refine (caught_nil p w).mono ?_
  rintro r w' ⟨rfl, rfl⟩
  cases c₀
  simp_all [bodyPostS, results, Tryz.results25, go_sem]
end Go.Proofs.Lw
end
