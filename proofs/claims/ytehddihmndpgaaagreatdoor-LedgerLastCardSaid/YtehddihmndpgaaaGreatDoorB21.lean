import Derived.Deep.DeepCutAuto
import Derived.Deep.RegionHeld3
import Derived.Test.YtehddihmndpgaaaGreatDoorB19
import Derived.Test.YtehddihmndpgaaaGreatDoorB20
section
set_option linter.unusedSimpArgs false
set_option linter.unusedVariables false
namespace Go.Proofs.Lw
open Go.RowKit Go.Proofs.YtehddihmndpgaaaGreatDoorW.PrintWords Go.Proofs.YtehddihmndpgaaaGreatDoor.PLib
theorem info44 : (Tryz.prog.info? 44).map (·.size) = some 9 := by kernel_rfl
theorem secV_cases (s : S39) : (secV s = .nilIface ∧ secR s = 0) ∨ secV s = .iface 119 (.agg #[.int .i64 (secR s)]) := by
  unfold secV secR
  by_cases h1 : formS s = true
  · rw [if_pos h1, if_pos h1]
    by_cases h2 : meetR s.f5 = 0
    · rw [if_pos h2]; exact .inl ⟨rfl, h2⟩
    · rw [if_neg h2]; exact .inr rfl
  · rw [if_neg h1, if_neg h1]; exact .inr rfl
set_option maxRecDepth 100000 in
theorem sec_any (s : S39) (ds : List Value) (w : World) (h : k39.K w s ds) (hg : w.cell? ⟨1, 0, none⟩ = some (.iface 149 (.agg #[.pointer (some ⟨3, 103, none⟩)]))) : Calls Tryz.prog 51 #[.agg ds.toArray] w fun e w' => e = .returned (.int .i64 (secR s)) ∧ Below w.heap.size w w' := by
  have hl : ds.length = 9 := k39.K_len h
  have hsz : (Tryz.prog.info? 39).map (·.size) = some ds.length := by rw [hl]; exact info39
  have hb0 : Below w.heap.size w (w.alloc (.cells ds.toArray 39)) := (Below.refl _ _).alloc (Nat.le_refl _) _
  have hrow : ∀ j u, ds[j]? = some u → (w.alloc (.cells ds.toArray 39)).cell? ((⟨w.heap.size, 0, none⟩ : Addr).add j) = some u := fun j u hu => by
    rw [add_plain]; exact (cell_of_row _ w.heap.size j _ 39 (0, 0) (heap_alloc_new w _)).trans (by simpa using hu)
  have cS := seccheck_any s ds _ (k39.K_below hb0 h)
  have hg0 := pw_cell_below hb0 hg
  obtain ⟨v, hv⟩ : ∃ v, secV s = v := ⟨_, rfl⟩
  rw [hv] at cS
  have hc := secV_cases s
  rw [hv] at hc
  have cC : ∀ W, Below (w.alloc (.cells ds.toArray 39)).heap.size (w.alloc (.cells ds.toArray 39)) W → Calls Tryz.prog 69 #[v] W fun e w' => e = .returned (.int .i64 (secR s)) ∧ Below W.heap.size W w' := by
    intro W hW
    rcases hc with ⟨rfl, h0⟩ | rfl
    · rw [h0]; exact code_nil W
    · exact code_hit _ W (pw_cell_below hW hg0)
  clear h hv hc
  go_enter Tryz.func51, Tryz.ntmps51
  go_wp2_with (first
    | ((with_reducible change wpList _ _ _ (⟨_, .load 39 _, _, _, _, _⟩ :: _) _ _); refine wpList_load_at rfl 39 _ rfl ⟨w.heap.size, 0, none⟩ rfl ds _ hrow Tryz.underlying39 rfl hsz ?_)
    | (go_at_call 69; refine (cC _ hB2).mono ?_; rintro e W3 ⟨rfl, hB3⟩)
    | (go_at_call 70; refine cS.mono ?_; rintro e W2 ⟨rfl, hB2⟩))
  go_ret
  exact ⟨rfl, hb0.trans ((hB2.trans (hB3.mono hB2.size)).mono hb0.size)⟩
set_option maxRecDepth 100000 in
theorem section_t (x : S48) (cs : List Value) (w : World) (h : k48.K w x cs) (hG : Glob w) : Calls Tryz.prog 50 #[.agg cs.toArray] w fun e w' => e = .returned (.int .i64 (secR x.f8)) ∧ Below w.heap.size w w' := by
  have bx0 := boxd w x cs h
  obtain ⟨ds, hK, hd⟩ := k48_sec bx0.k
  have hl : ds.length = 9 := k39.K_len hK
  have hsz : (Tryz.prog.info? 39).map (·.size) = some ds.length := by rw [hl]; exact info39
  have hrow : ∀ j u, ds[j]? = some u → (w.alloc (.cells cs.toArray 48)).cell? ((⟨w.heap.size, 11, none⟩ : Addr).add j) = some u := fun j u hu => by
    have := bx0.at_ (hd j u hu)
    unfold Addr.add
    by_cases hj : j = 0
    · subst hj; simpa using this
    · simpa [hj] using this
  have cS := sec_any x.f8 ds _ hK (pw_cell_below bx0.b hG.err)
  clear hK hd h
  go_enter Tryz.func50, Tryz.ntmps50
  go_wp2_with (first
    | ((with_reducible change wpList _ _ _ (⟨_, .load 39 _, _, _, _, _⟩ :: _) _ _); refine wpList_load_at rfl 39 _ rfl ⟨w.heap.size, 11, none⟩ rfl ds _ hrow Tryz.underlying39 rfl hsz ?_)
    | (go_at_call 51; refine cS.mono ?_; rintro e W2 ⟨rfl, hB2⟩))
  go_ret
  exact ⟨rfl, bx0.b.trans (hB2.mono bx0.b.size)⟩
theorem req_any (r : S44) (ds : List Value) (w : World) (h : k44.K w r ds) (hG : Glob w) : Calls Tryz.prog 54 #[.agg ds.toArray] w fun e w' => e = .returned (.int .i64 (reqR r)) ∧ Below w.heap.size w w' := by
  cases hb : hdrB r with
  | true => exact req_good r ds w h hG hb
  | false => exact req_bad r ds w h hb
theorem Glob.below {w w' : World} (h : Glob w) (hb : Below w.heap.size w w') : Glob w' :=
  ⟨fun n h1 h2 => by obtain ⟨a, b, c, d⟩ := h.kinds n h1 h2; exact ⟨pw_cell_below hb a, pw_cell_below hb b, pw_cell_below hb c, pw_cell_below hb d⟩, pw_cell_below hb h.err⟩
set_option maxRecDepth 100000 in
theorem request_t (x : S48) (cs : List Value) (w : World) (h : k48.K w x cs) (hG : Glob w) : Calls Tryz.prog 53 #[.agg cs.toArray] w fun e w' => e = .returned (.int .i64 (reqR x.f9)) ∧ Below w.heap.size w w' := by
  have bx0 := boxd w x cs h
  obtain ⟨ds, hK, hd⟩ := k48_req bx0.k
  have hl : ds.length = 9 := k44.K_len hK
  have hsz : (Tryz.prog.info? 44).map (·.size) = some ds.length := by rw [hl]; exact info44
  have hrow : ∀ j u, ds[j]? = some u → (w.alloc (.cells cs.toArray 48)).cell? ((⟨w.heap.size, 20, none⟩ : Addr).add j) = some u := fun j u hu => by
    have := bx0.at_ (hd j u hu)
    unfold Addr.add
    by_cases hj : j = 0
    · subst hj; simpa using this
    · simpa [hj] using this
  have cS := req_any x.f9 ds _ hK (hG.below bx0.b)
  clear hK hd h
  go_enter Tryz.func53, Tryz.ntmps53
  go_wp2_with (first
    | ((with_reducible change wpList _ _ _ (⟨_, .load 44 _, _, _, _, _⟩ :: _) _ _); refine wpList_load_at rfl 44 _ rfl ⟨w.heap.size, 20, none⟩ rfl ds _ hrow Tryz.underlying44 rfl hsz ?_)
    | (go_at_call 54; refine cS.mono ?_; rintro e W2 ⟨rfl, hB2⟩))
  go_ret
  exact ⟨rfl, bx0.b.trans (hB2.mono bx0.b.size)⟩
def petR (x : S48) : Int := match petOf x.f4 with | some m => mustR (inB x.f2 0 19999 && spanB x.f6 && inB x.f3 0 m && (x.f5 == -1 || inB x.f5 1 1099511627776)) | none => 370
theorem petitioned_t (x : S48) (cs : List Value) (w : World) (h : k48.K w x cs) : Calls Tryz.prog 48 #[.agg cs.toArray] w fun e w' => e = .returned (.int .i64 (petR x)) ∧ Below w.heap.size w w' := by
  unfold petR
  cases hp : petOf x.f4 with
  | some m => exact petitioned_some x cs w h m hp
  | none => exact petitioned_none x cs w h hp
def fldR (x : S48) : Int :=
  if x.f1 = 1 then mustR (spanB x.f6 && decide (x.f7.size ≤ 65536)) else if x.f1 = 2 then mustR (inB x.f2 0 19999 && inB x.f4 0 1023 && inB x.f3 0 4095 && gradeB x.f5)
  else if x.f1 = 3 ∨ x.f1 = 5 then mustR (inB x.f2 0 19999 && spanB x.f6 && inB x.f3 0 7 && (x.f5 == 1 || x.f5 == -1)) else if x.f1 = 4 then petR x else if x.f1 = 6 then secR x.f8 else if x.f1 = 7 then reqR x.f9
  else if x.f1 = 8 then quesR x.f5 x.f2 x.f3 x.f4 else mustR (inB x.f4 0 1023)
def clrE (x : S48) : S48 :=
  if x.f1 = 1 then e41 x else if x.f1 = 2 then e39 x else if x.f1 = 3 then e40 x else if x.f1 = 4 then e47 x else if x.f1 = 5 then e40 x else if x.f1 = 6 then e49 x else if x.f1 = 7 then e52 x else if x.f1 = 8 then e39 x else e56 x
noncomputable def chkE (x : S48) : Int := if Ldg.StOK (st x) then (if 1 ≤ x.f1 ∧ x.f1 ≤ 9 then (if clrE x = baseE x then fldR x else 370) else 370) else 80
end Go.Proofs.Lw
end
section
set_option linter.unusedSimpArgs false
set_option linter.unusedVariables false
namespace Go.Proofs.Lw
open Go.RowKit Go.Proofs.YtehddihmndpgaaaGreatDoorW.PrintWords Go.Proofs.YtehddihmndpgaaaGreatDoor.PLib
/-- Behind the region of entries.Check that asks for the kind. -/
structure CMid (w : World) (cs : List Value) (bk b0 b1 : Nat) (F0 F1 : Value) (W : World) : Prop where
  b : Below w.heap.size w W
  row : W.heap[w.heap.size]? = some (.cells cs.toArray 48 (0, 0))
  m : W.heap[bk]? = some (.cells #[F0, F1] 73 (0, 0))
  h0 : W.heap[b0]? = some (.cells #[.func (.func 38) #[] #[]] 71 (0, 0))
  h1 : W.heap[b1]? = some (.cells #[.func (.func 40) #[] #[.pointer (some ⟨b0, 0, none⟩)]] 71 (0, 0))
theorem cmid_new {w W1 W2 : World} {cs : List Value} {b0 b1 : Nat} {F0 F1 : Value} (hb : Below w.heap.size w W1) (hr : W1.heap[w.heap.size]? = some (.cells cs.toArray 48 (0, 0))) (hBB : Below W1.heap.size W1 W2)
    (h0 : W2.heap[b0]? = some (.cells #[.func (.func 38) #[] #[]] 71 (0, 0))) (h1 : W2.heap[b1]? = some (.cells #[.func (.func 40) #[] #[.pointer (some ⟨b0, 0, none⟩)]] 71 (0, 0))) : CMid w cs W2.heap.size b0 b1 F0 F1 (W2.alloc (.cells #[F0, F1] 73)) := by
  have hb2 := hb.trans (hBB.mono hb.size)
  have hr2 := (hBB.block _ (Array.getElem?_eq_some_iff.1 hr).1).trans hr
  exact ⟨hb2.alloc hb2.size _, (Below.heap_alloc _ _ _ (Array.getElem?_eq_some_iff.1 hr2).1).trans hr2, heap_alloc_new _ _, (Below.heap_alloc _ _ _ (Array.getElem?_eq_some_iff.1 h0).1).trans h0, (Below.heap_alloc _ _ _ (Array.getElem?_eq_some_iff.1 h1).1).trans h1⟩
theorem cmid_old {w W1 W2 : World} {cs : List Value} {b0 b1 : Nat} {F0 F1 z0 z1 : Value} (hb : Below w.heap.size w W1) (hr : W1.heap[w.heap.size]? = some (.cells cs.toArray 48 (0, 0))) (hBB : Below W1.heap.size W1 W2)
    (h0 : W2.heap[b0]? = some (.cells #[.func (.func 38) #[] #[]] 71 (0, 0))) (h1 : W2.heap[b1]? = some (.cells #[.func (.func 40) #[] #[.pointer (some ⟨b0, 0, none⟩)]] 71 (0, 0)))
    (hz : W2.heap[W1.heap.size]? = some (.cells #[z0, z1] 73 (0, 0))) (n0 : b0 ≠ W1.heap.size) (n1 : b1 ≠ W1.heap.size) : CMid w cs W1.heap.size b0 b1 F0 F1 ((W2.setCell ⟨W1.heap.size, 0, none⟩ F0).setCell ⟨W1.heap.size, 1, none⟩ F1) := by
  have hb2 := hb.trans (hBB.mono hb.size)
  have lt := (Array.getElem?_eq_some_iff.1 hr).1
  have hr2 := (hBB.block _ lt).trans hr
  have ot : ∀ k, k ≠ W1.heap.size → ((W2.setCell ⟨W1.heap.size, 0, none⟩ F0).setCell ⟨W1.heap.size, 1, none⟩ F1).heap[k]? = W2.heap[k]? := fun k hk =>
    (Below.heap_setCell _ ⟨W1.heap.size, 1, none⟩ _ k hk).trans (Below.heap_setCell _ ⟨W1.heap.size, 0, none⟩ _ k hk)
  exact ⟨(hb2.setCell (p := ⟨W1.heap.size, 0, none⟩) (by show w.heap.size ≤ W1.heap.size; omega) _).setCell (p := ⟨W1.heap.size, 1, none⟩) (by show w.heap.size ≤ W1.heap.size; omega) _, (ot _ (by omega)).trans hr2, by simp [World.setCell, Array.getElem?_modify, hz], (ot _ n0).trans h0, (ot _ n1).trans h1⟩
theorem wpList_build48b {ops : Array Oper} {rest : List Oper} {o : Oper} {A : Act} {w : World} {Q : Exit → Act → World → Prop} (hg : o.guard = none) (x y z : Operand) (ho : o.op = .build 48 #[(0, x), (1, y), (10, z)]) (t : Tmp) (hd : o.dst = some t) (a b c k r s : Int)
    (hx : A.eval x = .agg #[.int .i64 a, .int .i64 b, .int .i64 c]) (hy : A.eval y = .int .i64 k) (hz : A.eval z = .agg #[.int .i64 r, .int .i64 s]) (ca : Array Value) (hca : (cellsB a b c k r s).toArray = ca)
    (h : wpList Tryz.prog ops Q rest (A.put (some t) (.agg ca)) w) : wpList Tryz.prog ops Q (o :: rest) A w :=
  wpList_buildTo hg 48 _ ho (some t) hd ca (by rw [parts3, hx, hy, hz, ← hca]; exact built48b a b c k r s) h
/-- A call of a function value that holds a function of the program. -/
theorem wpList_dyn {ops : Array Oper} {rest : List Oper} {o : Oper} {A : Act} {w : World} {Q : Exit → Act → World → Prop} (hg : o.guard = none) (x y : Operand) (tys : Array TypeId) (ho : o.op = .call { callee := .value x, args := #[y], argTypes := tys })
    (f : FuncId) (cap : Array Value) (hx : A.eval x = .func (.func f) #[] cap) (u : Value) (hy : A.eval y = u) (eg : ∀ args w, (callFunc f args).run Tryz.prog w = .ok (.enter f args) w) (v : Value) (T : World → Prop)
    (hc : Calls Tryz.prog f (#[u] ++ cap) w fun e w' => e = .returned v ∧ T w') (t : Option Tmp) (hd : o.dst = t) (h : ∀ w', T w' → wpList Tryz.prog ops Q rest (A.put t v) w') : wpList Tryz.prog ops Q (o :: rest) A w := by
  subst hd
  refine wpList_plain hg fun K hK => ?_
  unfold Oper.wp
  have hrun : (execOp A.eval o).run Tryz.prog w = .ok (.enter f (#[u] ++ cap)) w := by
    have hr : resolve A.eval { callee := .value x, args := #[y], argTypes := tys } o.type = pure { target := .fn (.func f) cap, args := #[u] } := by
      have hm : (#[y] : Array Operand).map A.eval = #[u] := by simp only [List.map_toArray, List.map_cons, List.map_nil, hy]
      simp only [resolve, hx, hm, Deferred.ofValue]
      rfl
    unfold execOp
    rw [ho]
    show (resolve A.eval { callee := .value x, args := #[y], argTypes := tys } o.type >>= fun d => invoke d.target d.args).run Tryz.prog w = _
    rw [hr, pure_bind]
    exact eg _ _
  rw [hrun, Oper.upon_enter]
  refine hc.mono fun e w'' hh => ?_
  obtain ⟨rfl, hT⟩ := hh
  exact hK _ _ (h _ hT)
/-- Behind the emptying. -/
structure CEnd (w : World) (cs cs' : List Value) (r bk : Nat) (F1 : Value) (W : World) : Prop where
  b : Below w.heap.size w W
  at1 : ∀ j v, cs[j]? = some v → W.cell? ((⟨w.heap.size, 0, none⟩ : Addr).add j) = some v
  at6 : ∀ j v, cs'[j]? = some v → W.cell? ((⟨r, 0, none⟩ : Addr).add j) = some v
  m : W.cell? ⟨bk, 1, none⟩ = some F1
theorem cend_of {w wc W : World} {cs cs' : List Value} {bk b0 b1 : Nat} {F0 F1 : Value} (hM : CMid w cs bk b0 b1 F0 F1 wc) (hC : Chg (wc.alloc (.cells cs.toArray 48)) W wc.heap.size cs') : CEnd w cs cs' wc.heap.size bk F1 W := by
  have lr := (Array.getElem?_eq_some_iff.1 hM.row).1
  have lm := (Array.getElem?_eq_some_iff.1 hM.m).1
  refine ⟨Chg.below (hM.b.alloc hM.b.size _) hC hM.b.size, fun j v hv => ?_, fun j v hv => ?_, ?_⟩
  · rw [add_plain]
    exact (cell_of_row _ w.heap.size j _ 48 (0, 0) ((hC.same _ (by omega)).trans ((Below.heap_alloc _ _ _ lr).trans hM.row))).trans (by simpa using hv)
  · rw [add_plain]
    exact (cell_of_row _ wc.heap.size j _ 48 (0, 0) hC.row).trans (by simpa using hv)
  · exact (cell_of_row _ bk 1 _ 73 (0, 0) ((hC.same _ (by omega)).trans ((Below.heap_alloc _ _ _ lm).trans hM.m))).trans (by simp)
theorem CEnd.at_ {w W : World} {cs cs' : List Value} {r bk : Nat} {F1 : Value} (h : CEnd w cs cs' r bk F1 W) {j : Nat} {u : Value} (hu : cs[j]? = some u) : W.cell? ⟨w.heap.size, j, none⟩ = some u := by
  have := h.at1 j u hu
  rwa [add_plain] at this
theorem CEnd.next {w W W' : World} {cs cs' : List Value} {r bk : Nat} {F1 : Value} (h : CEnd w cs cs' r bk F1 W) (hb : Below W.heap.size W W') : CEnd w cs cs' r bk F1 W' :=
  ⟨h.b.trans (hb.mono h.b.size), fun j v hv => pw_cell_below hb (h.at1 j v hv), fun j v hv => pw_cell_below hb (h.at6 j v hv), pw_cell_below hb h.m⟩
theorem scheck_ok {s0 s1 s2 : Int} (h : Ldg.StOK ⟨s0, s1, s2⟩) (w : World) : Calls Tryz.prog 29 #[.agg #[.int .i64 s0, .int .i64 s1, .int .i64 s2]] w fun e w' => e = .returned (.int .i64 0) ∧ Below w.heap.size w w' := by
  have := scheck_any s0 s1 s2 w
  rwa [if_pos h] at this
theorem scheck_no {s0 s1 s2 : Int} (h : ¬ Ldg.StOK ⟨s0, s1, s2⟩) (w : World) : Calls Tryz.prog 29 #[.agg #[.int .i64 s0, .int .i64 s1, .int .i64 s2]] w fun e w' => e = .returned (.int .i64 80) ∧ Below w.heap.size w w' := by
  have := scheck_any s0 s1 s2 w
  rwa [if_neg h] at this
theorem Boxd.heap {w : World} {cs : List Value} {W : World} (h : Below (w.heap.size + 1) (w.alloc (.cells cs.toArray 48)) W) : W.heap[w.heap.size]? = some (.cells cs.toArray 48 (0, 0)) :=
  (h.block _ (by omega)).trans (heap_alloc_new w _)
set_option maxHeartbeats 8000000
set_option maxRecDepth 100000 in
/-- entries.Check of an entry whose stamp is not valid. -/
theorem core_stamp (x : S48) (cs : List Value) (w : World) (h : k48.K w x cs) (hno : ¬ Ldg.StOK (st x)) : Calls Tryz.prog 18 #[.agg cs.toArray] w fun e w' => e = .returned (.int .i64 80) ∧ Below w.heap.size w w' := by
  have bx0 := boxd w x cs h
  have hh := k48_head h
  have k0 := bx0.at_ hh.h0
  have k1 := bx0.at_ hh.h1
  have k2 := bx0.at_ hh.h2
  go_enter Tryz.func18, Tryz.ntmps18
  go_wp2_with (go_at_call 29; refine (scheck_no hno _).mono ?_; rintro e W1 ⟨rfl, hB1⟩)
  go_ret
  exact ⟨rfl, bx0.b.trans (hB1.mono bx0.b.size)⟩
set_option maxRecDepth 100000 in
theorem core_known (x : S48) (cs : List Value) (w : World) (h : k48.K w x cs) (hG : Glob w) (hok : Ldg.StOK (st x)) (cn kn : Nat) (caps : Nat → Nat → Array Value) (hq : ∀ b0 b1, kindOf b0 b1 x.f1 = some (cn, caps b0 b1, kn))
    (x' : S48) (cs' : List Value) (hK' : ∀ W, k48.K W x cs → k48.K W x' cs') (v : Int)
    (hclr : ∀ (W : World) (r b0 b1 : Nat), W.heap[b0]? = some (.cells #[.func (.func 38) #[] #[]] 71 (0, 0)) → W.heap[b1]? = some (.cells #[.func (.func 40) #[] #[.pointer (some ⟨b0, 0, none⟩)]] 71 (0, 0)) → W.heap[r]? = some (.cells cs.toArray 48 (0, 0)) →
      Calls Tryz.prog cn (#[.pointer (some ⟨r, 0, none⟩)] ++ caps b0 b1) W fun e W' => e = .returned (.tuple #[]) ∧ Chg W W' r cs')
    (hchk : ∀ W, k48.K W x cs → Glob W → Calls Tryz.prog kn #[.agg cs.toArray] W fun e W' => e = .returned (.int .i64 v) ∧ Below W.heap.size W W')
    (egc : ∀ args w, (callFunc cn args).run Tryz.prog w = .ok (.enter cn args) w) (egk : ∀ args w, (callFunc kn args).run Tryz.prog w = .ok (.enter kn args) w)
    (R : Int) (hR1 : x' = baseE x → R = v) (hR2 : x' ≠ baseE x → R = 370) :
    Calls Tryz.prog 18 #[.agg cs.toArray] w fun e w' => e = .returned (.int .i64 R) ∧ Below w.heap.size w w' := by
  have hcl := k48_len h
  have hsz : (Tryz.prog.info? 48).map (·.size) = some cs.length := by rw [hcl]; exact info48
  have hone := k48_one h
  have bx0 := boxd w x cs h
  have hh := k48_head h
  have sc := k48_scal h
  have k0 := bx0.at_ hh.h0
  have k1 := bx0.at_ hh.h1
  have k2 := bx0.at_ hh.h2
  have HCL := Lib.hid hcl
  have HSZ := Lib.hid hsz
  have HONE := Lib.hid hone
  clear hcl hsz hone
  go_enter Tryz.func18, Tryz.ntmps18
  go_upto_region 4 with (go_at_call 29; refine (scheck_ok hok _).mono ?_; rintro e W1 ⟨rfl, hB1⟩)
  have bx1 := bx0.next hB1
  have hBB1 : Below (w.heap.size + 1) (w.alloc (.cells cs.toArray 48)) W1 := hB1.mono (by simp)
  have row1 := Boxd.heap hBB1
  have z3 : W1.cell? ⟨w.heap.size, 3, none⟩ = some (.int .i64 x.f1) := bx1.at_ sc.h3
  have lt1 : w.heap.size < W1.heap.size := (Array.getElem?_eq_some_iff.1 row1).1
  have R1 := Lib.hid row1
  clear k0 k1 k2 row1 hB1
  go_cut [4, 5] (fun s4 s5 wc => ∃ bk b0 b1 : Nat, s4 = .pointer (some ⟨bk, 0, none⟩) ∧ s5 = .bool true ∧ CMid w cs bk b0 b1 (.func (.func cn) #[] (caps b0 b1)) (.func (.func kn) #[] #[]) wc)
  case first =>
    go_region_held3 (fun w' => w'.cell? ⟨w.heap.size, 3, none⟩ = some (.int .i64 x.f1))
      (first | exact hzA _ | exact hzS _ _ | assumption | go_keep)
      (first | (go_at_call 31; refine (kinds_any _).mono ?_; rintro e W2 ⟨rfl, hB2, m0, m1, m2⟩; have fc := (fun b o h => hB2.cell (p := ⟨b, o, none⟩) h); have ff := (fun b o h => hB2.frozen (p := ⟨b, o, none⟩) h); simp only [World.size_alloc, World.size_drew] at fc ff; simp at m0 m1 m2; have lk := look_some m2 (hq _ _); have lkA := fun o => look_some (w := W2.alloc o) ((Below.heap_alloc _ _ _ (Array.getElem?_eq_some_iff.1 m2).1).trans m2) (hq _ _); (try dsimp only at lk lkA); have hBB : Below W1.heap.size W1 W2 := (by first | exact (Below.refl _ _).drew.trans (hB2.mono (by simp)) | exact ((Below.refl _ _).drew.alloc (by simp) _).trans (hB2.mono (by simp))); have hz := pw_cell_below hBB z3; have hzA := fun o => (World.cell?_alloc_lt W2 o _ (World.block_lt_of_cell? W2 _ hz)).trans hz; have hzS := fun u v => pw_cell_below ((hBB.setCell (p := ⟨W1.heap.size, 0, none⟩) (Nat.le_refl _) u).setCell (p := ⟨W1.heap.size, 1, none⟩) (Nat.le_refl _) v) z3; have M0 := Lib.hid m0; have M1 := Lib.hid m1; have M2 := Lib.hid m2; clear m0 m1 m2))
    all_goals (go_wp2_with fail)
    all_goals go_meet
    all_goals first
      | exact ⟨_, W1.heap.size, W1.heap.size + 1, rfl, rfl, cmid_new bx1.b R1.out hBB M0.out M1.out⟩
      | exact ⟨_, W1.heap.size + 1, W1.heap.size + 1 + 1, rfl, rfl, cmid_old bx1.b R1.out hBB M0.out M1.out ((hB2.block _ (by simp)).trans (heap_alloc_new W1.drew _)) (by omega) (by omega)⟩
      | trace_state
  case rest =>
    obtain ⟨bk, b0, b1, rfl, rfl, hM⟩ := hcut
    have m0 : ∀ o, (wc.alloc o).cell? ⟨bk, 0, none⟩ = some (.func (.func cn) #[] (caps b0 b1)) := fun o => (cell_of_row _ bk 0 _ 73 (0, 0) ((Below.heap_alloc _ _ _ (Array.getElem?_eq_some_iff.1 hM.m).1).trans hM.m)).trans (by simp)
    have hr1 : ∀ j v, cs[j]? = some v → wc.cell? ((⟨w.heap.size, 0, none⟩ : Addr).add j) = some v := fun j v hv => by
      rw [add_plain]
      exact (cell_of_row _ w.heap.size j _ 48 (0, 0) hM.row).trans (by simpa using hv)
    have HR1 := Lib.hid hr1
    have hlm := (Array.getElem?_eq_some_iff.1 hM.m).1
    have hl0 := (Array.getElem?_eq_some_iff.1 hM.h0).1
    have hl1 := (Array.getElem?_eq_some_iff.1 hM.h1).1
    have hc8 := hclr (wc.alloc (.cells cs.toArray 48)) wc.heap.size b0 b1 ((Below.heap_alloc _ _ _ hl0).trans hM.h0) ((Below.heap_alloc _ _ _ hl1).trans hM.h1) (heap_alloc_new wc _)
    have HC8 := Lib.hid hc8
    have HM := Lib.hid hM
    have HR := Lib.hid R1.out
    have HBX := Lib.hid bx1
    have HQ := Lib.hid hq
    have HCK := Lib.hid hchk
    have HCLR := Lib.hid hclr
    have HK' := Lib.hid hK'
    have HB0 := Lib.hid bx0
    have HBB1 := Lib.hid hBB1
    clear hr1 hc8 hM hlm hl0 hl1 bx1 hq hclr hchk hK' bx0 hBB1 z3 lt1 R1
    have e4 := base_K x
    by_cases he : x' = baseE x
    · have hR := hR1 he
      clear hR1 hR2
      go_upto_region 9 with (first
        | ((with_reducible change wpList _ _ _ (⟨_, .load 48 (.tmp 1), _, _, _, _⟩ :: _) _ wc); refine wpList_load_at rfl 48 _ rfl ⟨w.heap.size, 0, none⟩ rfl cs _ HR1.out Tryz.underlying48 rfl HSZ.out ?_)
        | ((with_reducible change wpList _ _ _ (⟨_, .store 48 _ _, _, _, _, _⟩ :: _) _ _); refine wpList_store_new rfl 48 _ _ rfl cs.toArray _ _ rfl rfl (by simpa using HSZ.out) (by simp [HCL.out]) HONE.out ?_)
        | ((with_reducible change wpList _ _ _ (⟨_, .call { callee := .value (.tmp 24), args := _, argTypes := _ }, _, _, _, _⟩ :: _) _ _); refine wpList_dyn rfl (.tmp 24) (.tmp 6) _ rfl cn _ rfl _ rfl egc _ _ HC8.out _ rfl ?_; intro W8 hC8))
      clear m0
      have hE := cend_of HM.out hC8
      have q0 := hE.at_ hh.h0
      have q1 := hE.at_ hh.h1
      have q2 := hE.at_ hh.h2
      have q3 := hE.at_ sc.h3
      have q29 := hE.at_ sc.h29
      have q30 := hE.at_ sc.h30
      have hKx := HK'.out W8 (k48.K_below hE.b h)
      have hKb := e4 W8
      have hcl' := k48_len hKx
      have HSZ' : Hid ((Tryz.prog.info? 48).map (·.size) = some cs'.length) := Lib.hid (by rw [hcl']; exact info48)
      have hsame := same_any x' (baseE x) _ _ _ hKx hKb
      rw [decide_eq_true he] at hsame
      have HE := Lib.hid hE
      have HEN := Lib.hid (fun W9 hB => hE.next (W' := W9) hB)
      generalize hcb : (cellsB x.f0.f0 x.f0.f1 x.f0.f2 x.f1 x.f10.f0 x.f10.f1).toArray = ca at hsame
      clear hKx hKb hcl' hE HK' e4 HCLR HQ
      go_upto_region 11 with (first
        | ((with_reducible change wpList _ _ _ (⟨_, .load 48 (.tmp 6), _, _, _, _⟩ :: _) _ _); refine wpList_load_at rfl 48 _ rfl ⟨wc.heap.size, 0, none⟩ rfl cs' _ HE.out.at6 Tryz.underlying48 rfl HSZ'.out ?_)
        | ((with_reducible change wpList _ _ _ (⟨_, .build 48 _, _, _, _, _⟩ :: _) _ _); refine wpList_build48b rfl _ _ _ rfl 33 rfl x.f0.f0 x.f0.f1 x.f0.f2 x.f1 x.f10.f0 x.f10.f1 rfl rfl rfl ca hcb ?_)
        | (go_at_call 32; refine hsame.mono ?_; rintro e W9 ⟨rfl, hB9⟩; have q1b := (HEN.out _ hB9).m))
      have hE9 := HEN.out _ hB9
      have hck : Calls Tryz.prog kn (#[.agg cs.toArray] ++ #[]) W9 fun e W' => e = .returned (.int .i64 v) ∧ Below W9.heap.size W9 W' := by
        rw [Array.append_empty]
        exact HCK.out W9 (k48.K_below hE9.b h) (hG.below hE9.b)
      have HCK9 := Lib.hid hck
      clear hck q0 q1 q2 q3 q29 q30 HCK
      go_wp2_with (first
        | ((with_reducible change wpList _ _ _ (⟨_, .load 48 (.tmp 1), _, _, _, _⟩ :: _) _ _); refine wpList_load_at rfl 48 _ rfl ⟨w.heap.size, 0, none⟩ rfl cs _ hE9.at1 Tryz.underlying48 rfl HSZ.out ?_)
        | ((with_reducible change wpList _ _ _ (⟨_, .call { callee := .value (.tmp 37), args := _, argTypes := _ }, _, _, _, _⟩ :: _) _ _); refine wpList_dyn rfl (.tmp 37) (.tmp 38) _ rfl kn _ rfl _ rfl egk _ _ HCK9.out _ rfl ?_; intro W10 hB10))
      go_ret
      exact ⟨by first | (rw [hR]; done) | (rw [hR]; rfl), hE9.b.trans (hB10.mono hE9.b.size)⟩
    · have hR := hR2 he
      clear hR1 hR2
      go_upto_region 9 with (first
        | ((with_reducible change wpList _ _ _ (⟨_, .load 48 (.tmp 1), _, _, _, _⟩ :: _) _ wc); refine wpList_load_at rfl 48 _ rfl ⟨w.heap.size, 0, none⟩ rfl cs _ HR1.out Tryz.underlying48 rfl HSZ.out ?_)
        | ((with_reducible change wpList _ _ _ (⟨_, .store 48 _ _, _, _, _, _⟩ :: _) _ _); refine wpList_store_new rfl 48 _ _ rfl cs.toArray _ _ rfl rfl (by simpa using HSZ.out) (by simp [HCL.out]) HONE.out ?_)
        | ((with_reducible change wpList _ _ _ (⟨_, .call { callee := .value (.tmp 24), args := _, argTypes := _ }, _, _, _, _⟩ :: _) _ _); refine wpList_dyn rfl (.tmp 24) (.tmp 6) _ rfl cn _ rfl _ rfl egc _ _ HC8.out _ rfl ?_; intro W8 hC8))
      clear m0
      have hE := cend_of HM.out hC8
      have q0 := hE.at_ hh.h0
      have q1 := hE.at_ hh.h1
      have q2 := hE.at_ hh.h2
      have q3 := hE.at_ sc.h3
      have q29 := hE.at_ sc.h29
      have q30 := hE.at_ sc.h30
      have hKx := HK'.out W8 (k48.K_below hE.b h)
      have hKb := e4 W8
      have hcl' := k48_len hKx
      have HSZ' : Hid ((Tryz.prog.info? 48).map (·.size) = some cs'.length) := Lib.hid (by rw [hcl']; exact info48)
      have hsame := same_any x' (baseE x) _ _ _ hKx hKb
      rw [decide_eq_false he] at hsame
      have HE := Lib.hid hE
      have HEN := Lib.hid (fun W9 hB => hE.next (W' := W9) hB)
      generalize hcb : (cellsB x.f0.f0 x.f0.f1 x.f0.f2 x.f1 x.f10.f0 x.f10.f1).toArray = ca at hsame
      clear hKx hKb hcl' hE HK' e4 HCLR HQ
      go_wp2_with (first
        | ((with_reducible change wpList _ _ _ (⟨_, .load 48 (.tmp 6), _, _, _, _⟩ :: _) _ _); refine wpList_load_at rfl 48 _ rfl ⟨wc.heap.size, 0, none⟩ rfl cs' _ HE.out.at6 Tryz.underlying48 rfl HSZ'.out ?_)
        | ((with_reducible change wpList _ _ _ (⟨_, .build 48 _, _, _, _, _⟩ :: _) _ _); refine wpList_build48b rfl _ _ _ rfl 33 rfl x.f0.f0 x.f0.f1 x.f0.f2 x.f1 x.f10.f0 x.f10.f1 rfl rfl rfl ca hcb ?_)
        | (go_at_call 32; refine hsame.mono ?_; rintro e W9 ⟨rfl, hB9⟩))
      go_ret
      exact ⟨by first | (rw [hR]; done) | (rw [hR]; rfl), (HEN.out _ hB9).b⟩
set_option maxRecDepth 100000 in
theorem core_none (x : S48) (cs : List Value) (w : World) (h : k48.K w x cs) (hG : Glob w) (hok : Ldg.StOK (st x)) (hq : ∀ b0 b1, kindOf b0 b1 x.f1 = none) : Calls Tryz.prog 18 #[.agg cs.toArray] w fun e w' => e = .returned (.int .i64 370) ∧ Below w.heap.size w w' := by
  have hcl := k48_len h
  have hsz : (Tryz.prog.info? 48).map (·.size) = some cs.length := by rw [hcl]; exact info48
  have hone := k48_one h
  have bx0 := boxd w x cs h
  have hh := k48_head h
  have sc := k48_scal h
  have k0 := bx0.at_ hh.h0
  have k1 := bx0.at_ hh.h1
  have k2 := bx0.at_ hh.h2
  have HCL := Lib.hid hcl
  have HSZ := Lib.hid hsz
  have HONE := Lib.hid hone
  clear hcl hsz hone
  go_enter Tryz.func18, Tryz.ntmps18
  go_upto_region 4 with (go_at_call 29; refine (scheck_ok hok _).mono ?_; rintro e W1 ⟨rfl, hB1⟩)
  have bx1 := bx0.next hB1
  have hBB1 : Below (w.heap.size + 1) (w.alloc (.cells cs.toArray 48)) W1 := hB1.mono (by simp)
  have row1 := Boxd.heap hBB1
  have z3 : W1.cell? ⟨w.heap.size, 3, none⟩ = some (.int .i64 x.f1) := bx1.at_ sc.h3
  have lt1 : w.heap.size < W1.heap.size := (Array.getElem?_eq_some_iff.1 row1).1
  have R1 := Lib.hid row1
  clear k0 k1 k2 row1 hB1
  go_cut [4, 5] (fun s4 s5 wc => s5 = .bool false ∧ Below w.heap.size w wc)
  case first =>
    go_region_held3 (fun w' => w'.cell? ⟨w.heap.size, 3, none⟩ = some (.int .i64 x.f1))
      (first | exact hzA _ | exact hzS _ _ | assumption | go_keep)
      (first | (go_at_call 31; refine (kinds_any _).mono ?_; rintro e W2 ⟨rfl, hB2, m0, m1, m2⟩; have fc := (fun b o h => hB2.cell (p := ⟨b, o, none⟩) h); have ff := (fun b o h => hB2.frozen (p := ⟨b, o, none⟩) h); simp only [World.size_alloc, World.size_drew] at fc ff; simp at m0 m1 m2; have lk := look_none m2 (hq _ _); have lkA := fun o => look_none (w := W2.alloc o) ((Below.heap_alloc _ _ _ (Array.getElem?_eq_some_iff.1 m2).1).trans m2) (hq _ _); (try dsimp only at lk lkA); have hBB : Below W1.heap.size W1 W2 := (by first | exact (Below.refl _ _).drew.trans (hB2.mono (by simp)) | exact ((Below.refl _ _).drew.alloc (by simp) _).trans (hB2.mono (by simp))); have hz := pw_cell_below hBB z3; have hzA := fun o => (World.cell?_alloc_lt W2 o _ (World.block_lt_of_cell? W2 _ hz)).trans hz; have hzS := fun u v => pw_cell_below ((hBB.setCell (p := ⟨W1.heap.size, 0, none⟩) (Nat.le_refl _) u).setCell (p := ⟨W1.heap.size, 1, none⟩) (Nat.le_refl _) v) z3; have M0 := Lib.hid m0; have M1 := Lib.hid m1; have M2 := Lib.hid m2; clear m0 m1 m2))
    all_goals (go_wp2_with fail)
    all_goals go_meet
    all_goals first
      | exact ⟨rfl, (bx1.b.trans (hBB.mono bx1.b.size)).alloc (by simpa using (bx1.b.trans (hBB.mono bx1.b.size)).size) _⟩
      | exact ⟨rfl, ((bx1.b.trans (hBB.mono bx1.b.size)).setCell (p := ⟨W1.heap.size, 0, none⟩) bx1.b.size _).setCell (p := ⟨W1.heap.size, 1, none⟩) bx1.b.size _⟩
      | trace_state
  case rest =>
    obtain ⟨rfl, hM⟩ := hcut
    go_wp2
    go_ret
    exact ⟨rfl, hM⟩
end Go.Proofs.Lw
end
