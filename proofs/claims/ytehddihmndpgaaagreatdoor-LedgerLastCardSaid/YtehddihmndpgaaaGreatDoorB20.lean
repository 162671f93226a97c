import Derived.Deep.DeepCutAuto
import Derived.Deep.RegionHeld3
import Derived.Test.YtehddihmndpgaaaGreatDoorB15
set_option linter.unusedSimpArgs false
set_option linter.unusedVariables false
namespace Go.Proofs.Lw
open Go.RowKit Go.Proofs.YtehddihmndpgaaaGreatDoorW.PrintWords Go.Proofs.YtehddihmndpgaaaGreatDoor.PLib
def qE (n m : Int) (b fn : Nat) : MapEntry := { key := .int .i64 n, val := .agg #[.int .i64 m, .func (.func fn) #[] #[]], born := b }
def qu1 : Array MapEntry := #[qE 1 4095 0 92]
def qu2 : Array MapEntry := #[qE 1 4095 0 92, qE 2 0 1 93]
def qu3 : Array MapEntry := #[qE 1 4095 0 92, qE 2 0 1 93, qE 3 10000 2 93]
def qu4 : Array MapEntry := #[qE 1 4095 0 92, qE 2 0 1 93, qE 3 10000 2 93, qE 4 0 3 93]
def qu5 : Array MapEntry := #[qE 1 4095 0 92, qE 2 0 1 93, qE 3 10000 2 93, qE 4 0 3 93, qE 5 255 4 94]
def quOf (n : Int) : Option (Int × Nat) := if n = 1 then some (4095, 92) else if n = 2 then some (0, 93) else if n = 3 then some (10000, 93) else if n = 4 then some (0, 93) else if n = 5 then some (255, 94) else none
theorem find_qu (n : Int) : Instr.findNow (.int .i64) (.int .i64 n) qu5.toList 0 = some ((quOf n).map fun q => ((n - 1).toNat, .agg #[.int .i64 q.1, .func (.func q.2) #[] #[]])) := by
  unfold qu5 quOf
  by_cases h1 : n = 1
  · subst h1; rfl
  by_cases h2 : n = 2
  · subst h2; rfl
  by_cases h3 : n = 3
  · subst h3; rfl
  by_cases h4 : n = 4
  · subst h4; rfl
  by_cases h5 : n = 5
  · subst h5; rfl
  have q1 : (n == 1) = false := by simpa using h1
  have q2 : (n == 2) = false := by simpa using h2
  have q3 : (n == 3) = false := by simpa using h3
  have q4 : (n == 4) = false := by simpa using h4
  have q5 : (n == 5) = false := by simpa using h5
  simp [Instr.findNow, Instr.sameNow, qE, h1, h2, h3, h4, h5, q1, q2, q3, q4, q5]
theorem zero127 (w : World) : (zeroValue 127).run Tryz.prog w = .ok (.agg #[.int .i64 0, .nilFunc]) w := by kernel_rfl
theorem lookq_some {w : World} {r : Nat} {n : Int} {q : Int × Nat} (hb : w.heap[r]? = some (.map qu5 5)) (h : quOf n = some q) :
    (Instr.lookup 129 (.map (some r)) (.int .i64 n) true).run Tryz.prog w = .ok (.tuple #[.agg #[.int .i64 q.1, .func (.func q.2) #[] #[]], .bool true]) w :=
  run_lookup_at w 129 3 127 Tryz.underlying129 Tryz.underlying3 r _ _ hb n _ _ (by rw [find_qu, h]; rfl)
theorem lookq_none {w : World} {r : Nat} {n : Int} (hb : w.heap[r]? = some (.map qu5 5)) (h : quOf n = none) :
    (Instr.lookup 129 (.map (some r)) (.int .i64 n) true).run Tryz.prog w = .ok (.tuple #[.agg #[.int .i64 0, .nilFunc], .bool false]) w :=
  run_lookup_no w 129 3 127 Tryz.underlying129 Tryz.underlying3 _ (zero127 w) r _ _ hb n (by rw [find_qu, h]; rfl)
theorem built127 (m : Int) (f : Fn) (a b : Array Value) : Tryz.prog.built 127 [(0, .int .i64 m), (1, .func f a b)] = some #[.int .i64 m, .func f a b] := by kernel_rfl
theorem wpList_build127 {ops : Array Oper} {rest : List Oper} {o : Oper} {A : Act} {w : World} {Q : Exit → Act → World → Prop} (hg : o.guard = none) (x y : Operand) (t : Tmp) (ho : o.op = .build 127 #[(0, x), (1, y)]) (hd : o.dst = some t) (m : Int) (f : Fn) (a b : Array Value)
    (hx : A.eval x = .int .i64 m) (hy : A.eval y = .func f a b) (h : wpList Tryz.prog ops Q rest (A.put (some t) (.agg #[.int .i64 m, .func f a b])) w) : wpList Tryz.prog ops Q (o :: rest) A w :=
  wpList_buildTo hg 127 _ ho (some t) hd _ (by rw [parts2, hx, hy]; exact built127 m f a b) h
set_option maxHeartbeats 4000000
set_option maxRecDepth 100000 in
theorem qkinds_any (w : World) : Calls Tryz.prog 83 #[] w fun e w' => e = .returned (.map (some w.heap.size)) ∧ Below w.heap.size w w' ∧ w'.heap[w.heap.size]? = some (.map qu5 5) := by
  have hmm := @run_makeMap Tryz.prog
  go_enter Tryz.func83, Tryz.ntmps83
  go_wp2_with (first
    | ((with_reducible change wpList _ _ _ (⟨_, .build 127 _, _, _, _, _⟩ :: _) _ _); refine wpList_build127 rfl _ _ _ rfl rfl _ _ _ _ rfl rfl ?_)
    | ((with_reducible change wpList _ _ _ (⟨_, .insert 129 _ (.const (.int .i64 1)) _, _, _, _, _⟩ :: _) _ _); refine wpList_insert_to rfl 129 _ _ _ rfl 3 127 Tryz.underlying129 Tryz.underlying3 #[] qu1 0 _ rfl _ _ rfl rfl rfl (by rfl) (by rfl) 1 rfl ?_)
    | ((with_reducible change wpList _ _ _ (⟨_, .insert 129 _ (.const (.int .i64 2)) _, _, _, _, _⟩ :: _) _ _); refine wpList_insert_to rfl 129 _ _ _ rfl 3 127 Tryz.underlying129 Tryz.underlying3 qu1 qu2 1 _ rfl _ _ rfl rfl rfl (by rfl) (by rfl) 2 rfl ?_)
    | ((with_reducible change wpList _ _ _ (⟨_, .insert 129 _ (.const (.int .i64 3)) _, _, _, _, _⟩ :: _) _ _); refine wpList_insert_to rfl 129 _ _ _ rfl 3 127 Tryz.underlying129 Tryz.underlying3 qu2 qu3 2 _ rfl _ _ rfl rfl rfl (by rfl) (by rfl) 3 rfl ?_)
    | ((with_reducible change wpList _ _ _ (⟨_, .insert 129 _ (.const (.int .i64 4)) _, _, _, _, _⟩ :: _) _ _); refine wpList_insert_to rfl 129 _ _ _ rfl 3 127 Tryz.underlying129 Tryz.underlying3 qu3 qu4 3 _ rfl _ _ rfl rfl rfl (by rfl) (by rfl) 4 rfl ?_)
    | ((with_reducible change wpList _ _ _ (⟨_, .insert 129 _ (.const (.int .i64 5)) _, _, _, _, _⟩ :: _) _ _); refine wpList_insert_to rfl 129 _ _ _ rfl 3 127 Tryz.underlying129 Tryz.underlying3 qu4 qu5 4 _ rfl _ _ rfl rfl rfl (by rfl) (by rfl) 5 rfl ?_))
  go_ret
  exact ⟨rfl, (Below.refl _ _).alloc (Nat.le_refl _) _, heap_alloc_new w _⟩
def quesR (c0 c1 c2 c3 : Int) : Int := match quOf c0 with | some q => if inB c1 0 19999 && inB c3 0 1023 && inB c2 0 q.1 then 0 else 340 | none => 340
/-- Behind the region of questions.Check that asks for the kind. -/
structure QMid (w : World) (c0 c1 c2 c3 m : Int) (bk : Nat) (W : World) : Prop where
  b : Below w.heap.size w W
  z0 : W.cell? ⟨w.heap.size, 0, none⟩ = some (.int .i64 c0)
  z1 : W.cell? ⟨w.heap.size, 1, none⟩ = some (.int .i64 c1)
  z2 : W.cell? ⟨w.heap.size, 2, none⟩ = some (.int .i64 c2)
  z3 : W.cell? ⟨w.heap.size, 3, none⟩ = some (.int .i64 c3)
  m0 : W.cell? ⟨bk, 0, none⟩ = some (.int .i64 m)
theorem qmid {w W : World} {c0 c1 c2 c3 m : Int} {bk : Nat} (h : Below (w.heap.size + 1) (w.alloc (.cells #[.int .i64 c0, .int .i64 c1, .int .i64 c2, .int .i64 c3] 111)) W) (hm : W.cell? ⟨bk, 0, none⟩ = some (.int .i64 m)) : QMid w c0 c1 c2 c3 m bk W :=
  ⟨((Below.refl _ _).alloc (Nat.le_refl _) _).trans (h.mono (by omega)), (h.cell (p := ⟨w.heap.size, 0, none⟩) (by simp)).trans (by simp [go_sem]), (h.cell (p := ⟨w.heap.size, 1, none⟩) (by simp)).trans (by simp [go_sem]),
   (h.cell (p := ⟨w.heap.size, 2, none⟩) (by simp)).trans (by simp [go_sem]), (h.cell (p := ⟨w.heap.size, 3, none⟩) (by simp)).trans (by simp [go_sem]), hm⟩
theorem bsize {w W : World} {o : Obj} (h : Below (w.heap.size + 1) (w.alloc o) W) : w.heap.size + 1 ≤ W.heap.size := by have := h.size; simpa using this
set_option maxHeartbeats 4000000
set_option maxRecDepth 100000 in
theorem ques_x (c0 c1 c2 c3 : Int) (q : Int × Nat) (hq : quOf c0 = some q) (w : World) : Calls Tryz.prog 73 #[.agg #[.int .i64 c0, .int .i64 c1, .int .i64 c2, .int .i64 c3]] w fun e w' =>
    e = .returned (.int .i64 (quesR c0 c1 c2 c3)) ∧ Below w.heap.size w w' := by
  have HQ := Lib.hid hq
  clear hq
  go_enter Tryz.func73, Tryz.ntmps73
  go_upto_region 1 with (fail)
  go_cut [3, 4] (fun s3 s4 wc => ∃ bk : Nat, s3 = .pointer (some ⟨bk, 0, none⟩) ∧ s4 = .bool true ∧ QMid w c0 c1 c2 c3 q.1 bk wc)
  case first =>
    have HZ : Hid (∀ W, Below (w.heap.size + 1) (w.alloc (.cells #[.int .i64 c0, .int .i64 c1, .int .i64 c2, .int .i64 c3] 111)) W → W.cell? ⟨w.heap.size, 0, none⟩ = some (.int .i64 c0)) := Lib.hid fun W hb => (hb.cell (p := ⟨w.heap.size, 0, none⟩) (by simp)).trans (by simp [go_sem])
    go_region_held3 (fun w' => w'.cell? ⟨w.heap.size, 0, none⟩ = some (.int .i64 c0))
      (first | exact hzA _ | assumption | go_keep | (rw [hB2.cell (by simp)]; go_keep))
      (first | (go_at_call 83; refine (qkinds_any _).mono ?_; rintro e W2 ⟨rfl, hB2, hm2⟩; have fc := (fun b o h => hB2.cell (p := ⟨b, o, none⟩) h); have ff := (fun b o h => hB2.frozen (p := ⟨b, o, none⟩) h); simp only [World.size_alloc, World.size_drew] at fc ff; simp at hm2; have lk := lookq_some hm2 HQ.out; have lkA := fun o => lookq_some (w := W2.alloc o) ((Below.heap_alloc _ _ _ (Array.getElem?_eq_some_iff.1 hm2).1).trans hm2) HQ.out; have hBB : Below (w.heap.size + 1) (w.alloc (.cells #[.int .i64 c0, .int .i64 c1, .int .i64 c2, .int .i64 c3] 111)) W2 := (by first | exact (Below.refl _ _).drew.trans (hB2.mono (by simp)) | exact ((Below.refl _ _).drew.alloc (by simp) _).trans (hB2.mono (by simp))); have hz := HZ.out _ hBB; have hzA := fun o => (World.cell?_alloc_lt W2 o _ (World.block_lt_of_cell? W2 _ hz)).trans hz; have HM := Lib.hid hm2; clear hm2))
    all_goals (go_wp2_with fail)
    all_goals go_meet
    all_goals refine ⟨_, rfl, rfl, ?_⟩
    all_goals first
      | exact qmid (hBB.alloc (bsize hBB) _) (by simp [go_sem])
      | exact qmid ((hBB.setCell (p := ⟨w.heap.size + 1, 0, none⟩) (by simp) _).setCell (p := ⟨w.heap.size + 1, 1, none⟩) (by simp) _) (by simp [go_sem, fc])
      | trace_state
  case rest =>
    obtain ⟨bk, rfl, rfl, ⟨hb, z0, z1, z2, z3, m0⟩⟩ := hcut
    have HB := Lib.hid hb
    clear hb
    go_wp2
    all_goals (go_ret; refine ⟨ret_m ?_, HB.out⟩; unfold quesR; rw [HQ.out]; unfold inB; simp only [Bool.and_eq_true, decide_eq_true_eq]; split <;> omega)
set_option maxRecDepth 100000 in
theorem ques_none (c0 c1 c2 c3 : Int) (hq : quOf c0 = none) (w : World) : Calls Tryz.prog 73 #[.agg #[.int .i64 c0, .int .i64 c1, .int .i64 c2, .int .i64 c3]] w fun e w' =>
    e = .returned (.int .i64 (quesR c0 c1 c2 c3)) ∧ Below w.heap.size w w' := by
  have HQ := Lib.hid hq
  clear hq
  go_enter Tryz.func73, Tryz.ntmps73
  go_upto_region 1 with (fail)
  go_cut [3, 4] (fun s3 s4 wc => ∃ bk : Nat, s3 = .pointer (some ⟨bk, 0, none⟩) ∧ s4 = .bool false ∧ QMid w c0 c1 c2 c3 0 bk wc)
  case first =>
    have HZ : Hid (∀ W, Below (w.heap.size + 1) (w.alloc (.cells #[.int .i64 c0, .int .i64 c1, .int .i64 c2, .int .i64 c3] 111)) W → W.cell? ⟨w.heap.size, 0, none⟩ = some (.int .i64 c0)) := Lib.hid fun W hb => (hb.cell (p := ⟨w.heap.size, 0, none⟩) (by simp)).trans (by simp [go_sem])
    go_region_held3 (fun w' => w'.cell? ⟨w.heap.size, 0, none⟩ = some (.int .i64 c0))
      (first | exact hzA _ | assumption | go_keep | (rw [hB2.cell (by simp)]; go_keep))
      (first | (go_at_call 83; refine (qkinds_any _).mono ?_; rintro e W2 ⟨rfl, hB2, hm2⟩; have fc := (fun b o h => hB2.cell (p := ⟨b, o, none⟩) h); have ff := (fun b o h => hB2.frozen (p := ⟨b, o, none⟩) h); simp only [World.size_alloc, World.size_drew] at fc ff; simp at hm2; have lk := lookq_none hm2 HQ.out; have lkA := fun o => lookq_none (w := W2.alloc o) ((Below.heap_alloc _ _ _ (Array.getElem?_eq_some_iff.1 hm2).1).trans hm2) HQ.out; have hBB : Below (w.heap.size + 1) (w.alloc (.cells #[.int .i64 c0, .int .i64 c1, .int .i64 c2, .int .i64 c3] 111)) W2 := (by first | exact (Below.refl _ _).drew.trans (hB2.mono (by simp)) | exact ((Below.refl _ _).drew.alloc (by simp) _).trans (hB2.mono (by simp))); have hz := HZ.out _ hBB; have hzA := fun o => (World.cell?_alloc_lt W2 o _ (World.block_lt_of_cell? W2 _ hz)).trans hz; have HM := Lib.hid hm2; clear hm2))
    all_goals (go_wp2_with fail)
    all_goals go_meet
    all_goals refine ⟨_, rfl, rfl, ?_⟩
    all_goals first
      | exact qmid (hBB.alloc (bsize hBB) _) (by simp [go_sem])
      | exact qmid ((hBB.setCell (p := ⟨w.heap.size + 1, 0, none⟩) (by simp) _).setCell (p := ⟨w.heap.size + 1, 1, none⟩) (by simp) _) (by simp [go_sem, fc])
      | trace_state
  case rest =>
    obtain ⟨bk, rfl, rfl, ⟨hb, z0, z1, z2, z3, m0⟩⟩ := hcut
    have HB := Lib.hid hb
    clear hb
    go_wp2
    go_ret
    exact ⟨ret_m (by unfold quesR; rw [HQ.out]), HB.out⟩
theorem ques_any (c0 c1 c2 c3 : Int) (w : World) : Calls Tryz.prog 73 #[.agg #[.int .i64 c0, .int .i64 c1, .int .i64 c2, .int .i64 c3]] w fun e w' => e = .returned (.int .i64 (quesR c0 c1 c2 c3)) ∧ Below w.heap.size w w' := by
  cases hq : quOf c0 with
  | some q => exact ques_x c0 c1 c2 c3 q hq w
  | none => exact ques_none c0 c1 c2 c3 hq w
set_option maxRecDepth 100000 in
theorem asked_t (x : S48) (cs : List Value) (w : World) (h : k48.K w x cs) : Calls Tryz.prog 55 #[.agg cs.toArray] w fun e w' => e = .returned (.int .i64 (quesR x.f5 x.f2 x.f3 x.f4)) ∧ Below w.heap.size w w' := by
  have sc := k48_scal h
  have bx0 := boxd w x cs h
  have k4 := bx0.at_ sc.h4
  have k5 := bx0.at_ sc.h5
  have k6 := bx0.at_ sc.h6
  have k7 := bx0.at_ sc.h7
  go_enter Tryz.func55, Tryz.ntmps55
  go_wp2_with (go_at_call 73; refine (ques_any _ _ _ _ _).mono ?_; rintro e W2 ⟨rfl, hB2⟩)
  go_ret
  exact ⟨rfl, bx0.b.trans (hB2.mono bx0.b.size)⟩
end Go.Proofs.Lw
