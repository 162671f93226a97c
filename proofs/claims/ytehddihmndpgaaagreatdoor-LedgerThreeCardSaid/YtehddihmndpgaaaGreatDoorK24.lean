import Derived.StillTailTactics
import Derived.Test.YtehddihmndpgaaaGreatDoorK19
import Derived.Test.YtehddihmndpgaaaGreatDoorK21
import Derived.Test.YtehddihmndpgaaaGreatDoorK23
section
set_option linter.unusedSimpArgs false
set_option linter.unusedVariables false
namespace Go.Proofs.Lw
open Go.RowKit Go.Sort Go.Proofs.YtehddihmndpgaaaGreatDoorW.PrintWords Go.Proofs.YtehddihmndpgaaaGreatDoor.PLib
open Ldg (St cmpS)
theorem beq3 (x y : S48) : (x.f0.f0 == y.f0.f0 && (x.f0.f1 == y.f0.f1 && (x.f0.f2 == y.f0.f2))) = decide (st x = st y) := by
  have : st x = st y ↔ x.f0.f0 = y.f0.f0 ∧ x.f0.f1 = y.f0.f1 ∧ x.f0.f2 = y.f0.f2 := by
    unfold st
    exact ⟨fun h => ⟨congrArg St.time h, congrArg St.campus h, congrArg St.no h⟩, fun h => Ldg.St.ext_ h.1 h.2.1 h.2.2⟩
  by_cases h : st x = st y
  · have h' := this.1 h
    simp [h, h']
  · have h' : ¬ (x.f0.f0 = y.f0.f0 ∧ x.f0.f1 = y.f0.f1 ∧ x.f0.f2 = y.f0.f2) := fun h2 => h (this.2 h2)
    simp only [h, decide_false]
    refine Bool.eq_false_iff.2 fun h2 => h' ?_
    simpa using h2
set_option maxHeartbeats 8000000
set_option maxRecDepth 100000 in
theorem put2_any (x y : S48) (cs ds : List Value) (b : Nat) (w : World) (hK : k48.K w x cs) (hKy : k48.K w y ds) (hb : w.heap[b]? = some (.cells ds.toArray 48 (0, 0))) :
    Calls Tryz.prog 27 #[.agg cs.toArray, .pointer (some ⟨b, 0, none⟩)] w fun r w' => r = .returned (.bool (decide (st x = st y))) ∧ Below w.heap.size w w' := by
  have hu32 := Tryz.underlying32
  have hcl := k48_len hK
  have hlt := (Array.getElem?_eq_some_iff.1 hb).1
  have hsz : (Tryz.prog.info? 48).map (·.size) = some cs.length := by rw [hcl]; exact info48
  have hone := k48_one hK
  obtain ⟨x0, x1, x2⟩ := k48_head hK
  obtain ⟨y0, y1, y2⟩ := k48_head hKy
  have b0 : w.cell? ⟨b, 0, none⟩ = some (.int .i64 y.f0.f0) := (cell_of_row w b 0 _ 48 (0, 0) hb).trans (by simpa using y0)
  have b1 : w.cell? ⟨b, 1, none⟩ = some (.int .i64 y.f0.f1) := (cell_of_row w b 1 _ 48 (0, 0) hb).trans (by simpa using y1)
  have b2 : w.cell? ⟨b, 2, none⟩ = some (.int .i64 y.f0.f2) := (cell_of_row w b 2 _ 48 (0, 0) hb).trans (by simpa using y2)
  obtain ⟨_, x0⟩ := List.getElem?_eq_some_iff.1 x0
  obtain ⟨_, x1⟩ := List.getElem?_eq_some_iff.1 x1
  obtain ⟨_, x2⟩ := List.getElem?_eq_some_iff.1 x2
  clear y0 y1 y2
  have hb3 := beq3 x y
  go_enter Tryz.func27, Tryz.ntmps27
  go_wp2
  all_goals (go_ret; refine ⟨ret_b ?_, (Below.refl _ _).alloc (Nat.le_refl _) _⟩; rw [← hb3]; clear hb3 hsz hone hb)
  all_goals simp_all
def idxR (y : S48) : List S48 → Nat → Int
  | [], _ => -1
  | x :: r, k => if st x = st y then k else idxR y r (k + 1)
set_option maxHeartbeats 8000000
set_option maxRecDepth 100000 in
theorem index_any (A : Option Addr) (c : Nat) (l : List S48) (y : S48) (ds : List Value) (b : Nat) (w : World) (h : Kd.C k48 w A l.length l) (hKy : k48.K w y ds) (hb : w.heap[b]? = some (.cells ds.toArray 48 (0, 0))) :
    Calls Tryz.prog 26 #[.slice A l.length c, .func (.func 27) #[] #[.pointer (some ⟨b, 0, none⟩)]] w fun r w' => r = .returned (.int .i64 (idxR y l 0)) ∧ Below w.heap.size w w' := by
  have hN : l.length ≤ 9223372036854775807 := h.2.1
  have hbl := (Array.getElem?_eq_some_iff.1 hb).1
  go_enter Tryz.func26, Tryz.ntmps26
  go_wp2
  go_loopw [8] (fun i wr => ∃ k : Nat, k ≤ l.length ∧ i = .int .i64 k ∧ idxR y (l.drop k) k = idxR y l 0 ∧ Below w.heap.size w wr)
    (fun i _ => l.length - (intOf i).toNat)
  case atStart => exact ⟨0, Nat.zero_le _, rfl, rfl, Below.refl _ _⟩
  case round =>
    obtain ⟨k, hk, rfl, hd, hB⟩ := hrel
    by_cases hlt : k < l.length
    · obtain ⟨ad, cs, rfl, hK, hcell⟩ := ent_at h k hlt
      have hcw : ∀ j u, cs[j]? = some u → wr.cell? ((ad.add (k * 31)).add j) = some u := fun j u hu => pw_cell_below hB (hcell j u hu)
      have hcl := k48_len hK
      have hsz : (Tryz.prog.info? 48).map (·.size) = some cs.length := by rw [hcl]; exact info48
      have hcall := put2_any l[k] y cs ds b wr (k48.K_below hB hK) (k48.K_below hB hKy) ((hB.block b hbl).trans hb)
      rw [List.drop_eq_getElem_cons hlt] at hd
      have Hd := Lib.hid hd
      have HB := Lib.hid hB
      clear hd hB
      by_cases h0 : st l[k] = st y
      · have d0 : decide (st l[k] = st y) = true := by simpa using h0
        rw [d0] at hcall
        go_wp2_with (first
          | (go_at_call 27; refine hcall.mono ?_; rintro e W2 ⟨rfl, hB2⟩)
          | (refine wpList_load_at rfl 48 _ rfl (ad.add (k * 31)) rfl cs _ hcw Tryz.underlying48 rfl hsz ?_))
        go_ret
        refine ⟨ret_i ?_, HB.out.trans (hB2.mono HB.out.size)⟩
        have := Hd.out
        simp only [idxR, h0, if_true] at this
        exact this
      · have d0 : decide (st l[k] = st y) = false := by simpa using h0
        rw [d0] at hcall
        go_wp2_with (first
          | (go_at_call 27; refine hcall.mono ?_; rintro e W2 ⟨rfl, hB2⟩)
          | (refine wpList_load_at rfl 48 _ rfl (ad.add (k * 31)) rfl cs _ hcw Tryz.underlying48 rfl hsz ?_))
        go_roundw
        case rel =>
          refine ⟨k + 1, by omega, by go_num, ?_, HB.out.trans (hB2.mono HB.out.size)⟩
          have := Hd.out
          simp only [idxR, h0, if_false] at this
          exact this
        case measure => simp [intOf]; omega
    · have hd' : idxR y l 0 = -1 := by rw [← hd, List.drop_eq_nil_of_le (by omega)]; rfl
      have Hd := Lib.hid hd'
      clear hd hd'
      go_wp2
      go_ret
      exact ⟨ret_i Hd.out.symm, hB⟩
def PutPost (y : S48) (w : World) (r : Except Int (List S48)) (e : Ending) (w' : World) : Prop := Below w.heap.size w w' ∧
  (match r with
   | .ok x => ∃ A c, e = .returned (.tuple #[.slice A x.length c, .int .i64 (idxR y x 0), .int .i64 0]) ∧ x.length ≤ c ∧ Kd.C k48 w' A x.length x
   | .error z => e = .returned (.tuple #[.slice none 0 0, .int .i64 0, .int .i64 z]))
set_option maxRecDepth 100000 in
theorem putDefer_fail (p : Addr) (e : Int) (old : Value) (w : World) (hc : w.cell? p = some old) (hf : w.frozen? p = false) (hp : p.block < w.heap.size) :
    CallsD Tryz.prog 25 #[.pointer (some p)] (.panicking (failV e)) w fun r u' w' =>
      r = .returned (.tuple #[]) ∧ u' = .panicking [{ v := .iface 81 (.agg #[.int .i64 e]), recovered := true }] ∧ w' = (w.alloc (.cells #[.int .i64 e] 81)).setCell p (.int .i64 e) := by
  refine callsD_of_wpS Tryz.func25 rfl fun c₀ cs hu => ?_
  apply wpS_region
  simp [wpOpsS, go_sem, recoverD, hu, failV, Tryz.ntmps25]
  refine (caught_fail p e old w hc hf hp).mono ?_
  rintro r w' ⟨rfl, rfl⟩
  simp [bodyPostS, results, Tryz.results25, go_sem]
theorem putDefer_idle (p : Addr) (w : World) :
    CallsD Tryz.prog 25 #[.pointer (some p)] .returning w fun r u' w' => r = .returned (.tuple #[]) ∧ u' = .returning ∧ w' = w := by
  refine callsD_of_wpS Tryz.func25 rfl fun c₀ cs hu => ?_
  apply wpS_region
  simp [wpOpsS, go_sem, recoverD, hu, Tryz.ntmps25]
  refine (caught_nil p w).mono ?_
  rintro r w' ⟨rfl, rfl⟩
  cases c₀
  simp_all [bodyPostS, results, Tryz.results25, go_sem]
end Go.Proofs.Lw
end
section
set_option linter.unusedSimpArgs false
set_option linter.unusedVariables false
namespace Go.Proofs.Lw
open Go.RowKit Go.Sort Go.Proofs.YtehddihmndpgaaaGreatDoorW.PrintWords Go.Proofs.YtehddihmndpgaaaGreatDoor.PLib
open Ldg (St cmpS)
theorem row_at {w : World} {b : Nat} {cs : List Value} {t : TypeId} (h : w.heap[b]? = some (.cells cs.toArray t (0, 0))) : ∀ j u, cs[j]? = some u → w.cell? ((⟨b, 0, none⟩ : Addr).add j) = some u := by
  intro j u hu
  have h2 := cell_of_row _ b j _ t (0, 0) h
  have h3 : (⟨b, 0, none⟩ : Addr).add j = ⟨b, j, none⟩ := by unfold Addr.add; by_cases h : j = 0 <;> simp [h]
  rw [h3, h2]
  simpa using hu
theorem one_row {w : World} {b : Nat} {cs : List Value} {y : S48} (h : w.heap[b]? = some (.cells cs.toArray 48 (0, 0))) (hK : k48.K w y cs) : Kd.C k48 w (some ⟨b, 0, none⟩) [y].length [y] := by
  refine ⟨rfl, by simp, fun _ => ⟨_, rfl, ?_⟩⟩
  intro j p hp
  cases j with
  | zero =>
    obtain rfl : y = p := by simpa using hp
    refine ⟨cs, k48_len hK, hK, fun i u hu => ?_⟩
    have := row_at h i u hu
    simpa using this
  | succ j => simp at hp
theorem wpList_build1 {P : Program} {ops : Array Oper} {rest : List Oper} {o : Oper} {a : Act} {w : World} {Q : Exit → Act → World → Prop} (hg : o.guard = none) (t e : TypeId) (x : Operand) (ho : o.op = .buildSlice t 1 #[(0, x)])
    (cs : List Value) (hx : a.eval x = .agg cs.toArray) (ie : TypeInfo) (z : Value) (hu : P.underlying t = some (.slice e)) (hie : P.info? e = some ie) (hz : ie.zero = some z) (hs : ie.size = cs.length) (hpos : 0 < cs.length) (hsm : cs.length ≤ 1000) (hzc : z.cells.size = cs.length)
    (h : wpList P ops Q rest (a.put o.dst (.slice (some ⟨w.heap.size, 0, none⟩) 1 1)) (w.alloc (.cells cs.toArray e))) : wpList P ops Q (o :: rest) a w :=
  wpList_plain hg fun _ hK => (wp_buildSlice t e 1 _ ho cs.toArray ie z hu hie hz (by omega) (by omega) (by
    have : ((#[(0, x)] : Array (Nat × Operand)).map fun (i, x) => (i, a.eval x)).toList = [(0, .agg cs.toArray)] := by simp [hx]
    rw [this, hs]
    exact fill_one cs _ _ rfl (by simp)) (hK _ _ h))
set_option maxHeartbeats 8000000
set_option maxRecDepth 100000 in
theorem put_any {G : World → Prop} {chk : S48 → Int} (hC : Chk G chk) (A : Option Addr) (ca : Nat) (la : List S48) (y : S48) (cs : List Value) (w : World) (ha : Kd.C k48 w A la.length la) (hca : la.length ≤ ca) (hy : k48.K w y cs) (hGw : G w) :
    Calls Tryz.prog 11 #[.slice A la.length ca, .agg cs.toArray] w (PutPost y w (Ldg.putR st chk la y)) := by
  have hmf : ∀ (fn : Fn) (first cap : Array Value) (w : World), (Instr.makeFunc fn first cap).run Tryz.prog w = .ok (.func fn first cap) w := fun _ _ _ _ => rfl
  have hcl := k48_len hy
  have hsz : (Tryz.prog.info? 48).map (·.size) = some cs.length := by rw [hcl]; exact info48
  have hone := k48_one hy
  obtain ⟨W1, hW1⟩ : ∃ W1, (w.alloc (.cells cs.toArray 48)).alloc (.cells #[.int .i64 0] 25) = W1 := ⟨_, rfl⟩
  have hB1 : Below w.heap.size w W1 := by rw [← hW1]; exact ((Below.refl _ w).alloc (Nat.le_refl _) _).alloc (by simp) _
  have hH1 : W1.heap[w.heap.size + 1]? = some (.cells #[.int .i64 0] 25 (0, 0)) := by
    rw [← hW1]; have := heap_alloc_new (w.alloc (.cells cs.toArray 48)) (.cells #[.int .i64 0] 25); rwa [World.size_alloc] at this
  have hN1 : W1.heap[w.heap.size]? = some (.cells cs.toArray 48 (0, 0)) := by rw [← hW1]; exact (alloc_old _ _ (by simp)).trans (heap_alloc_new w _)
  have cA := check_any hC A ca la W1 (Kd.C_below ha hB1) (hC.keep _ _ hGw hB1)
  obtain ⟨za, hza⟩ : ∃ za, Ldg.checkR st chk la = za := ⟨_, rfl⟩
  rw [hza] at cA
  have keepB : ∀ W, Below W1.heap.size W1 W → Below w.heap.size w W := fun W h => hB1.trans (h.mono hB1.size)
  have keepH : ∀ W, Below W1.heap.size W1 W → W.heap[w.heap.size + 1]? = some (.cells #[.int .i64 0] 25 (0, 0)) := fun W h => (h.block _ (Array.getElem?_eq_some_iff.1 hH1).1).trans hH1
  have keepN : ∀ W, Below W1.heap.size W1 W → W.heap[w.heap.size]? = some (.cells cs.toArray 48 (0, 0)) := fun W h => (h.block _ (Array.getElem?_eq_some_iff.1 hN1).1).trans hN1
  have fail : ∀ (z : Int) (W : World), Below w.heap.size w W → W.heap[w.heap.size + 1]? = some (.cells #[.int .i64 0] 25 (0, 0)) →
      CallsD Tryz.prog 25 #[.pointer (some ⟨w.heap.size + 1, 0, none⟩)] (.panicking (failV z)) W fun r u' w' => r = .returned (.tuple #[]) ∧ u' = .panicking [{ v := .iface 81 (.agg #[.int .i64 z]), recovered := true }] ∧
        w' = (W.alloc (.cells #[.int .i64 z] 81)).setCell ⟨w.heap.size + 1, 0, none⟩ (.int .i64 z) := fun z W _ hH =>
    putDefer_fail ⟨w.heap.size + 1, 0, none⟩ z (.int .i64 0) W (cell_of_row W (w.heap.size + 1) 0 _ 25 (0, 0) hH) (by simp [World.frozen?, hH]) (Array.getElem?_eq_some_iff.1 hH).1
  have cY := fun W (h : Below W1.heap.size W1 W) => hC.call y cs W (k48.K_below (keepB W h) hy) (hC.keep _ _ hGw (keepB W h))
  obtain ⟨zy, hzy⟩ : ∃ zy, chk y = zy := ⟨_, rfl⟩
  rw [hzy] at cY
  obtain ⟨i0, z0', hi, hz0, hz1, hz2, hz3⟩ := i48
  go_enter_defers Tryz.func11, Tryz.ntmps11
  by_cases ea : za = 0
  · subst ea
    by_cases ey : zy = 0
    · subst ey
      have hcam : ∀ x ∈ la ++ [y], 0 ≤ x.f0.f1 ∧ x.f0.f1 ≤ 6 := fun x hx => by
        rcases List.mem_append.1 hx with hx | hx
        · exact cam_of hC hza x hx
        · obtain rfl := List.mem_singleton.1 hx
          have := hC.st x hzy
          exact ⟨this.2.2.1, this.2.2.2.1⟩
      have hlen : la.length + [y].length ≤ 1000000 := by have := len_of hza; simp; omega
      have cJ := fun W (h : Below W1.heap.size W1 W) => joined_any A (some ⟨W.heap.size, 0, none⟩) ca 1 la [y] (W.alloc (.cells cs.toArray 48)) (Kd.C_below ha ((keepB W h).alloc (keepB W h).size _)) hca
        (one_row (heap_alloc_new W _) (k48.K_below ((keepB W h).alloc (keepB W h).size _) hy)) (by simp) hcam hlen
      obtain ⟨r, hr⟩ : ∃ r, Ldg.joinR st la [y] = r := ⟨_, rfl⟩
      rw [hr] at cJ
      have hm : Ldg.putR st chk la y = r := by unfold Ldg.putR; rw [if_neg (by simp [hza]), if_neg (by simp [hzy]), hr]
      rw [hm]
      have sh3 : ∀ W2 W3 : World, Below W1.heap.size W1 W2 → Below W2.heap.size W2 W3 → Below W1.heap.size W1 W3 := fun W2 W3 h h' => h.trans (h'.mono h.size)
      have sh5 : ∀ W3 W5 : World, Below W1.heap.size W1 W3 → Below (W3.alloc (.cells cs.toArray 48)).heap.size (W3.alloc (.cells cs.toArray 48)) W5 → Below W1.heap.size W1 W5 := fun W3 W5 h h' => (h.alloc h.size _).trans (h'.mono (by have := h.size; simp; omega))
      cases r with
      | ok x =>
        go_wp2_with (first
          | (go_at_call 9; refine cA.mono ?_; rintro e W2 ⟨rfl, hB2⟩)
          | (go_at_call 18; refine (cY _ hB2).mono ?_; rintro e W3 ⟨rfl, hB3⟩)
          | (go_at_call 23; refine (try_ok _).mono ?_; rintro e W4 ⟨rfl, rfl⟩)
          | (refine wpList_build1 rfl 22 48 _ rfl cs rfl i0 z0' Tryz.underlying22 hi hz0 (by rw [hz1, hcl]) (by omega) (by omega) (by rw [hz3, hcl]) ?_)
          | (go_at_call 24; refine (cJ _ (sh3 _ _ hB2 hB3)).mono ?_; rintro e W5 ⟨hB5, AX, cX, rfl, hlX, hCX⟩; have hB15 := sh5 _ _ (sh3 _ _ hB2 hB3) hB5; have kh := keepH _ hB15; have kc : W5.cell? ⟨w.heap.size + 1, 0, none⟩ = _ := cell_of_row W5 (w.heap.size + 1) 0 _ 25 (0, 0) kh; have kf : W5.frozen? ⟨w.heap.size + 1, 0, none⟩ = false := by simp [World.frozen?, kh])
          | (go_at_call 26; refine (index_any AX cX x y cs w.heap.size _ hCX (k48.K_below (keepB _ hB15) hy) (keepN _ hB15)).mono ?_; rintro e W6 ⟨rfl, hB6⟩; have hB16 := sh3 _ _ hB15 hB6; have kh6 := keepH _ hB16; have kc6 : W6.cell? ⟨w.heap.size + 1, 0, none⟩ = _ := cell_of_row W6 (w.heap.size + 1) 0 _ 25 (0, 0) kh6; have kf6 : W6.frozen? ⟨w.heap.size + 1, 0, none⟩ = false := by simp [World.frozen?, kh6])
          | (refine wpList_load_at rfl 48 _ rfl ⟨w.heap.size, 0, none⟩ rfl cs _ (row_at (keepN _ (sh3 _ _ hB2 hB3))) Tryz.underlying48 rfl hsz ?_)
          | (refine wpList_load_at rfl 48 _ rfl ⟨w.heap.size, 0, none⟩ rfl cs _ (row_at (keepN _ hB2)) Tryz.underlying48 rfl hsz ?_))
        have kb := keepB _ hB16
        rw [setCell_same kh6]
        refine leaves_cons (f := 25) (args := #[.pointer (some ⟨w.heap.size + 1, 0, none⟩)]) (by simp) (by simp [go_sem]) ?_
        refine (putDefer_idle ⟨w.heap.size + 1, 0, none⟩ _).mono ?_
        rintro e u' w'' ⟨rfl, rfl, rfl⟩
        exact ⟨.tuple #[.slice AX x.length cX, .int .i64 (idxR y x 0), .int .i64 0], by simp [results, Tryz.results11, go_sem, kc6], kb, AX, cX, rfl, hlX, Kd.C_below hCX hB6⟩
      | error z =>
        go_wp2_with (first
          | (go_at_call 9; refine cA.mono ?_; rintro e W2 ⟨rfl, hB2⟩)
          | (go_at_call 18; refine (cY _ hB2).mono ?_; rintro e W3 ⟨rfl, hB3⟩)
          | (go_at_call 23; refine (try_ok _).mono ?_; rintro e W4 ⟨rfl, rfl⟩)
          | (refine wpList_build1 rfl 22 48 _ rfl cs rfl i0 z0' Tryz.underlying22 hi hz0 (by rw [hz1, hcl]) (by omega) (by omega) (by rw [hz3, hcl]) ?_)
          | (go_at_call 24; refine (cJ _ (sh3 _ _ hB2 hB3)).mono ?_; rintro e W5 ⟨hB5, rfl⟩)
          | (refine wpList_load_at rfl 48 _ rfl ⟨w.heap.size, 0, none⟩ rfl cs _ (row_at (keepN _ (sh3 _ _ hB2 hB3))) Tryz.underlying48 rfl hsz ?_)
          | (refine wpList_load_at rfl 48 _ rfl ⟨w.heap.size, 0, none⟩ rfl cs _ (row_at (keepN _ hB2)) Tryz.underlying48 rfl hsz ?_))
        have hB15 := sh5 _ _ (sh3 _ _ hB2 hB3) hB5
        have kb := keepB _ hB15
        have kh := keepH _ hB15
        refine leaves_cons (f := 25) (args := #[.pointer (some ⟨w.heap.size + 1, 0, none⟩)]) (by simp) (by simp [go_sem]) ?_
        refine (fail z W5 kb kh).mono ?_
        rintro e u' w'' ⟨rfl, rfl, rfl⟩
        have hlt := (Array.getElem?_eq_some_iff.1 kh).1
        have hc : ((W5.alloc (.cells #[.int .i64 z] 81)).setCell ⟨w.heap.size + 1, 0, none⟩ (.int .i64 z)).cell? ⟨w.heap.size + 1, 0, none⟩ = some (.int .i64 z) :=
          cell_of_row _ (w.heap.size + 1) 0 _ 25 (0, 0) (box_set _ _ _ _ _ ((alloc_old W5 _ hlt).trans kh))
        refine ⟨.tuple #[.slice none 0 0, .int .i64 0, .int .i64 z], by simp [results, Tryz.results11, go_sem, hc], (kb.alloc kb.size _).setCell (p := ⟨w.heap.size + 1, 0, none⟩) (Nat.le_succ _) _, ?_⟩
        rfl
    · have sh3 : ∀ W2 W3 : World, Below W1.heap.size W1 W2 → Below W2.heap.size W2 W3 → Below W1.heap.size W1 W3 := fun W2 W3 h h' => h.trans (h'.mono h.size)
      go_wp2_with (first
        | (go_at_call 9; refine cA.mono ?_; rintro e W2 ⟨rfl, hB2⟩)
        | (go_at_call 18; refine (cY _ hB2).mono ?_; rintro e W3 ⟨rfl, hB3⟩)
        | (go_at_call 23; have hx := hB3; refine (try_no _ ey _).mono ?_; rintro e W5 ⟨rfl, rfl⟩)
        | (go_at_call 23; refine (try_ok _).mono ?_; rintro e W4 ⟨rfl, rfl⟩)
        | (refine wpList_load_at rfl 48 _ rfl ⟨w.heap.size, 0, none⟩ rfl cs _ (row_at (keepN _ (sh3 _ _ hB2 hB3))) Tryz.underlying48 rfl hsz ?_)
        | (refine wpList_load_at rfl 48 _ rfl ⟨w.heap.size, 0, none⟩ rfl cs _ (row_at (keepN _ hB2)) Tryz.underlying48 rfl hsz ?_))
      have hB13 := sh3 _ _ hB2 hB3
      have kb := keepB _ hB13
      have kh := keepH _ hB13
      refine leaves_cons (f := 25) (args := #[.pointer (some ⟨w.heap.size + 1, 0, none⟩)]) (by simp) (by simp [go_sem]) ?_
      refine (fail zy W3 kb kh).mono ?_
      rintro e u' w'' ⟨rfl, rfl, rfl⟩
      have hlt := (Array.getElem?_eq_some_iff.1 kh).1
      have hc : ((W3.alloc (.cells #[.int .i64 zy] 81)).setCell ⟨w.heap.size + 1, 0, none⟩ (.int .i64 zy)).cell? ⟨w.heap.size + 1, 0, none⟩ = some (.int .i64 zy) :=
        cell_of_row _ (w.heap.size + 1) 0 _ 25 (0, 0) (box_set _ _ _ _ _ ((alloc_old W3 _ hlt).trans kh))
      refine ⟨.tuple #[.slice none 0 0, .int .i64 0, .int .i64 zy], by simp [results, Tryz.results11, go_sem, hc], (kb.alloc kb.size _).setCell (p := ⟨w.heap.size + 1, 0, none⟩) (Nat.le_succ _) _, ?_⟩
      unfold Ldg.putR; rw [if_neg (by simp [hza]), if_pos (by rw [hzy]; exact ey), hzy]
  · go_wp2_with (first
      | (go_at_call 9; refine cA.mono ?_; rintro e W2 ⟨rfl, hB2⟩)
      | (go_at_call 23; refine (try_no _ ea _).mono ?_; rintro e W3 ⟨rfl, rfl⟩))
    have kb := keepB _ hB2
    have kh := keepH _ hB2
    refine leaves_cons (f := 25) (args := #[.pointer (some ⟨w.heap.size + 1, 0, none⟩)]) (by simp) (by simp [go_sem]) ?_
    refine (fail za W2 kb kh).mono ?_
    rintro e u' w'' ⟨rfl, rfl, rfl⟩
    have hlt := (Array.getElem?_eq_some_iff.1 kh).1
    have hc : ((W2.alloc (.cells #[.int .i64 za] 81)).setCell ⟨w.heap.size + 1, 0, none⟩ (.int .i64 za)).cell? ⟨w.heap.size + 1, 0, none⟩ = some (.int .i64 za) :=
      cell_of_row _ (w.heap.size + 1) 0 _ 25 (0, 0) (box_set _ _ _ _ _ ((alloc_old W2 _ hlt).trans kh))
    refine ⟨.tuple #[.slice none 0 0, .int .i64 0, .int .i64 za], by simp [results, Tryz.results11, go_sem, hc], (kb.alloc kb.size _).setCell (p := ⟨w.heap.size + 1, 0, none⟩) (Nat.le_succ _) _, ?_⟩
    unfold Ldg.putR; rw [if_pos (by rw [hza]; exact ea), hza]
end Go.Proofs.Lw
end
section
set_option linter.unusedSimpArgs false
set_option linter.unusedVariables false
namespace Go.Proofs.Lw
open Go.RowKit Go.Sort Go.Proofs.YtehddihmndpgaaaGreatDoorW.PrintWords Go.Proofs.YtehddihmndpgaaaGreatDoor.PLib
theorem run_index22_at {o : Oper} {a : Act} {w : World} (i j : Nat) (ho : o.op = .indexAddr 22 (.tmp i) (.tmp j)) (ad : Addr) (n k cap : Nat) (hk : k < n) (hx : a.eval (.tmp i) = .slice (some ad) n cap) (hy : a.eval (.tmp j) = .int .i64 k) :
    (execOp a.eval o).run Tryz.prog w = .ok (.value (.pointer (some (ad.add (k * 31))))) w := by
  have hu := Tryz.underlying22
  obtain ⟨i0, z0', hi, hz0, hz1, hz2, hz3⟩ := i48
  have e2 : (k : Int) < n := by omega
  unfold execOp
  simp only [ho, hx, hy]
  simp [go_sem, hu, hi, hz1, hk, e2]
theorem wpStill_index_at {ops : Array Oper} {w : World} {Q : Act → Prop} {rest : List Oper} {o : Oper} {a : Act} (hgd : o.guard = none) (i j : Nat) (ho : o.op = .indexAddr 22 (.tmp i) (.tmp j)) (ad : Addr) (n k cap : Nat) (hk : k < n) (hx : a.eval (.tmp i) = .slice (some ad) n cap) (hy : a.eval (.tmp j) = .int .i64 k)
    (h : wpStill Tryz.prog ops w Q rest (a.put o.dst (.pointer (some (ad.add (k * 31)))))) : wpStill Tryz.prog ops w Q (o :: rest) a := by
  refine wpStill_step fun K hK => ?_
  simp only [Region.wanted, hgd, if_true]
  unfold Oper.still
  rw [run_index22_at i j ho ad n k cap hk hx hy]
  exact ⟨rfl, hK _ h⟩
set_option maxHeartbeats 8000000
set_option maxRecDepth 100000 in
theorem refsame_any (A B : Option Addr) (c d : Nat) (la lb : List S48) (w : World) (ha : Kd.C k48 w A la.length la) (hb : Kd.C k48 w B lb.length lb) :
    Calls Tryz.prog 12 #[.slice A la.length c, .slice B lb.length d] w fun r w' => r = .returned (.bool (decide (la = lb))) ∧ Below w.heap.size w w' := by
  have hN : la.length ≤ 9223372036854775807 := ha.2.1
  go_enter Tryz.func12, Tryz.ntmps12
  by_cases hlen : la.length = lb.length
  · obtain ⟨n, hn⟩ : ∃ n, la.length = n := ⟨_, rfl⟩
    have hn' : lb.length = n := by omega
    rw [hn] at ha hN ⊢
    rw [hn'] at hb ⊢
    go_wp2
    go_loopw [5] (fun i wr => ∃ k : Nat, k ≤ n ∧ i = .int .i64 k ∧ la.take k = lb.take k ∧ Below w.heap.size w wr)
      (fun i _ => n - (intOf i).toNat)
    case atStart => exact ⟨0, Nat.zero_le _, rfl, by simp, Below.refl _ _⟩
    case round =>
      obtain ⟨k, hk, rfl, hd, hB⟩ := hrel
      by_cases hlt : k < n
      · obtain ⟨ad, cs, rfl, hK, hcell⟩ := ent_at (hn ▸ ha) k (by omega)
        obtain ⟨ad', ds, rfl, hK', hcell'⟩ := ent_at (hn' ▸ hb) k (by omega)
        have hsz : (Tryz.prog.info? 48).map (·.size) = some cs.length := by rw [k48_len hK]; exact info48
        have hsz' : (Tryz.prog.info? 48).map (·.size) = some ds.length := by rw [k48_len hK']; exact info48
        have HB := Lib.hid hB
        have Hd := Lib.hid hd
        clear hB hd
        by_cases hE : la[k] = lb[k]
        · have dE : decide (la[k] = lb[k]) = true := by simpa using hE
          go_wp2
          obtain ⟨W5, hW5⟩ : ∃ W5, ({ wr with drawn := wr.drawn + 1 } : World) = W5 := ⟨_, rfl⟩
          have hB5 : Below w.heap.size w W5 := by rw [← hW5]; exact ⟨HB.out.os, HB.out.tape, HB.out.output, HB.out.size, HB.out.block⟩
          have l5 : ∀ j u, cs[j]? = some u → W5.cell? ((ad.add (k * 31)).add j) = some u := fun j u hu => pw_cell_below hB5 (hcell j u hu)
          have l5' : ∀ j u, ds[j]? = some u → W5.cell? ((ad'.add (k * 31)).add j) = some u := fun j u hu => pw_cell_below hB5 (hcell' j u hu)
          have hsame := same37_any la[k] lb[k] cs ds W5 (k48.K_below hB5 hK) (k48.K_below hB5 hK')
          rw [dE] at hsame
          refine wp_region_still_tail 8 (by kernel_rfl) (by kernel_rfl) ?_
          rw [hW5]
          simp only [List.take_succ_cons, List.take_zero, List.drop_succ_cons, List.drop_zero]
          repeat (first
            | (refine wpStill_index_at rfl 17 18 rfl ad n k c hlt rfl rfl ?_; simp only [Act.put, List.setIfInBounds_toArray, List.set_cons_succ, List.set_cons_zero])
            | (refine wpStill_index_at rfl 21 22 rfl ad' n k d hlt rfl rfl ?_; simp only [Act.put, List.setIfInBounds_toArray, List.set_cons_succ, List.set_cons_zero])
            | (refine wpStill_load_at rfl 48 (.tmp 19) rfl (ad.add (k * 31)) rfl cs _ l5 Tryz.underlying48 rfl hsz ?_; simp only [Act.put, List.setIfInBounds_toArray, List.set_cons_succ, List.set_cons_zero])
            | (refine wpStill_load_at rfl 48 (.tmp 23) rfl (ad'.add (k * 31)) rfl ds _ l5' Tryz.underlying48 rfl hsz' ?_; simp only [Act.put, List.setIfInBounds_toArray, List.set_cons_succ, List.set_cons_zero])
            | still_step)
          refine wpStill_nil ?_
          clear hW5
          go_wp2_with (go_at_call 28; refine hsame.mono ?_; rintro e W6 ⟨rfl, hB6⟩)
          go_roundw
          case rel => exact ⟨k + 1, by omega, by go_num, by rw [List.take_add_one, List.take_add_one, Hd.out, List.getElem?_eq_getElem (by omega), List.getElem?_eq_getElem (by omega), hE], hB5.trans (hB6.mono hB5.size)⟩
          case measure => simp [intOf]; omega
        · have dE : decide (la[k] = lb[k]) = false := by simpa using hE
          go_wp2
          obtain ⟨W5, hW5⟩ : ∃ W5, ({ wr with drawn := wr.drawn + 1 } : World) = W5 := ⟨_, rfl⟩
          have hB5 : Below w.heap.size w W5 := by rw [← hW5]; exact ⟨HB.out.os, HB.out.tape, HB.out.output, HB.out.size, HB.out.block⟩
          have l5 : ∀ j u, cs[j]? = some u → W5.cell? ((ad.add (k * 31)).add j) = some u := fun j u hu => pw_cell_below hB5 (hcell j u hu)
          have l5' : ∀ j u, ds[j]? = some u → W5.cell? ((ad'.add (k * 31)).add j) = some u := fun j u hu => pw_cell_below hB5 (hcell' j u hu)
          have hsame := same37_any la[k] lb[k] cs ds W5 (k48.K_below hB5 hK) (k48.K_below hB5 hK')
          rw [dE] at hsame
          refine wp_region_still_tail 8 (by kernel_rfl) (by kernel_rfl) ?_
          rw [hW5]
          simp only [List.take_succ_cons, List.take_zero, List.drop_succ_cons, List.drop_zero]
          repeat (first
            | (refine wpStill_index_at rfl 17 18 rfl ad n k c hlt rfl rfl ?_; simp only [Act.put, List.setIfInBounds_toArray, List.set_cons_succ, List.set_cons_zero])
            | (refine wpStill_index_at rfl 21 22 rfl ad' n k d hlt rfl rfl ?_; simp only [Act.put, List.setIfInBounds_toArray, List.set_cons_succ, List.set_cons_zero])
            | (refine wpStill_load_at rfl 48 (.tmp 19) rfl (ad.add (k * 31)) rfl cs _ l5 Tryz.underlying48 rfl hsz ?_; simp only [Act.put, List.setIfInBounds_toArray, List.set_cons_succ, List.set_cons_zero])
            | (refine wpStill_load_at rfl 48 (.tmp 23) rfl (ad'.add (k * 31)) rfl ds _ l5' Tryz.underlying48 rfl hsz' ?_; simp only [Act.put, List.setIfInBounds_toArray, List.set_cons_succ, List.set_cons_zero])
            | still_step)
          refine wpStill_nil ?_
          clear hW5
          go_wp2_with (go_at_call 28; refine hsame.mono ?_; rintro e W6 ⟨rfl, hB6⟩)
          go_ret
          refine ⟨ret_b (Eq.symm (decide_eq_false fun e => hE ?_)), hB5.trans (hB6.mono hB5.size)⟩
          simp [e]
      · have e : la = lb := by rw [List.take_of_length_le (by omega), List.take_of_length_le (by omega)] at hd; exact hd
        have He := Lib.hid e
        have HB := Lib.hid hB
        clear hd hB
        go_wp2
        go_ret
        exact ⟨ret_b (Eq.symm (by simpa using He.out)), HB.out⟩
  · have e : ¬ la = lb := fun e => hlen (by rw [e])
    have d1 : decide ((la.length : Int) = lb.length) = false := by simp only [decide_eq_false_iff_not]; omega
    have d2 : decide (la.length = lb.length) = false := by simpa using hlen
    go_wp2
    go_ret
    exact ⟨ret_b (Eq.symm (by simpa using e)), Below.refl _ _⟩
end Go.Proofs.Lw
end
section
set_option linter.unusedSimpArgs false
set_option linter.unusedVariables false
namespace Go.Proofs.Lw
open Go.RowKit Go.Sort Go.Proofs.YtehddihmndpgaaaGreatDoorW.PrintWords Go.Proofs.YtehddihmndpgaaaGreatDoor.PLib
def fewE (x : S48) : Bool := decide (x.f7.size ≤ 1000 ∧ x.f8.f5.length ≤ 20 ∧ x.f8.f6.length ≤ 12 ∧ x.f8.f7.length ≤ 12 ∧ x.f9.f5.length ≤ 12)
def few (l : List S48) : Bool := l.all fewE && decide (l.length ≤ 16)
theorem fewE_f (x : S48) : sizarref39_FewEntry.f x.f0.f0 x.f0.f1 x.f0.f2 x.f1 x.f2 x.f3 x.f4 x.f5 x.f6.f0 x.f6.f1 x.f7 x.f8.f0 x.f8.f1 x.f8.f2 x.f8.f3 x.f8.f4 x.f8.f5 x.f8.f6 x.f8.f7 x.f8.f8 x.f9.f0 x.f9.f1 x.f9.f2 x.f9.f3 x.f9.f4 x.f9.f5 x.f9.f6.f0 x.f9.f6.f1 x.f9.f7 x.f10.f0 x.f10.f1 = some (fewE x) := by
  unfold sizarref39_FewEntry.f fewE
  by_cases h1 : x.f7.size ≤ 1000
  · by_cases h2 : x.f8.f5.length ≤ 20
    · by_cases h3 : x.f8.f6.length ≤ 12
      · by_cases h4 : x.f8.f7.length ≤ 12
        · rw [if_pos (by omega), if_pos (by omega), if_pos (by omega), if_pos (by omega)]
          congr 1
          by_cases h5 : x.f9.f5.length ≤ 12
          · rw [decide_eq_true (by omega), decide_eq_true ⟨h1, h2, h3, h4, h5⟩]
          · rw [decide_eq_false (by omega), decide_eq_false (fun h => h5 h.2.2.2.2)]
        · rw [if_pos (by omega), if_pos (by omega), if_pos (by omega), if_neg (by omega), decide_eq_false (fun h => h4 h.2.2.2.1)]
      · rw [if_pos (by omega), if_pos (by omega), if_neg (by omega), decide_eq_false (fun h => h3 h.2.2.1)]
    · rw [if_pos (by omega), if_neg (by omega), decide_eq_false (fun h => h2 h.2.1)]
  · rw [if_neg (by omega), decide_eq_false (fun h => h1 h.1)]
theorem fewE_any (x : S48) (cs : List Value) (w : World) (hx : k48.K w x cs) : Calls Tryz.prog 13 #[.agg cs.toArray] w fun e w' => e = .returned (.bool (fewE x)) ∧ Below w.heap.size w w' := by
  obtain ⟨A5, c5, A6, c6, A7, c7, A9, c9, rfl, l5, h5, l6, h6, l7, h7, l9, h9⟩ := k48_open hx
  exact sizarref39_FewEntry.calls _ _ _ _ _ _ _ _ _ _ _ _ _ _ _ _ A5 c5 _ A6 c6 _ A7 c7 _ _ _ _ _ _ _ A9 c9 _ _ _ _ _ _ _ w h5 l5 h6 l6 h7 l7 h9 l9 (fewE_f x)
set_option maxHeartbeats 8000000
set_option maxRecDepth 100000 in
theorem few_any (A : Option Addr) (c : Nat) (l : List S48) (w : World) (h : Kd.C k48 w A l.length l) :
    Calls Tryz.prog 8 #[.slice A l.length c] w fun r w' => r = .returned (.bool (few l)) ∧ Below w.heap.size w w' := by
  have hN : l.length ≤ 9223372036854775807 := h.2.1
  go_enter Tryz.func8, Tryz.ntmps8
  go_wp2
  go_loopw [3] (fun i wr => ∃ k : Nat, k ≤ l.length ∧ i = .int .i64 k ∧ (∀ x ∈ l.take k, fewE x = true) ∧ Below w.heap.size w wr)
    (fun i _ => l.length - (intOf i).toNat)
  case atStart => exact ⟨0, Nat.zero_le _, rfl, by simp, Below.refl _ _⟩
  case round =>
    obtain ⟨k, hk, rfl, hd, hB⟩ := hrel
    by_cases hlt : k < l.length
    · obtain ⟨ad, cs, rfl, hK, hcell⟩ := ent_at h k hlt
      have hcw : ∀ j u, cs[j]? = some u → wr.cell? ((ad.add (k * 31)).add j) = some u := fun j u hu => pw_cell_below hB (hcell j u hu)
      have hsz : (Tryz.prog.info? 48).map (·.size) = some cs.length := by rw [k48_len hK]; exact info48
      have hcall := fewE_any l[k] cs wr (k48.K_below hB hK)
      have Hd := Lib.hid hd
      have HB := Lib.hid hB
      clear hd hB
      by_cases h0 : fewE l[k] = true
      · rw [h0] at hcall
        go_wp2_with (first
          | (go_at_call 13; refine hcall.mono ?_; rintro e W2 ⟨rfl, hB2⟩)
          | (refine wpList_load_at rfl 48 _ rfl (ad.add (k * 31)) rfl cs _ hcw Tryz.underlying48 rfl hsz ?_))
        go_roundw
        case rel =>
          refine ⟨k + 1, by omega, by go_num, ?_, HB.out.trans (hB2.mono HB.out.size)⟩
          intro x hx
          rw [List.take_add_one, List.getElem?_eq_getElem hlt] at hx
          rcases List.mem_append.1 hx with hx | hx
          · exact Hd.out x hx
          · simp at hx; rw [hx]; exact h0
        case measure => simp [intOf]; omega
      · have h0' : fewE l[k] = false := by simpa using h0
        rw [h0'] at hcall
        go_wp2_with (first
          | (go_at_call 13; refine hcall.mono ?_; rintro e W2 ⟨rfl, hB2⟩)
          | (refine wpList_load_at rfl 48 _ rfl (ad.add (k * 31)) rfl cs _ hcw Tryz.underlying48 rfl hsz ?_))
        go_ret
        refine ⟨ret_b ?_, HB.out.trans (hB2.mono HB.out.size)⟩
        have : l.all fewE = false := by
          rw [List.all_eq_false]
          exact ⟨l[k], List.getElem_mem hlt, by simp [h0']⟩
        simp [few, this]
    · have hall : l.all fewE = true := by rw [List.take_of_length_le (by omega)] at hd; exact List.all_eq_true.2 hd
      have Ha := Lib.hid hall
      have HB := Lib.hid hB
      clear hd hB hall
      by_cases hl : l.length ≤ 16
      · have d1 : decide ((l.length : Int) ≤ 16) = true := by simp only [decide_eq_true_eq]; omega
        have d2 : decide (l.length ≤ 16) = true := by simpa using hl
        go_wp2
        go_ret
        exact ⟨ret_b (by simp [few, Ha.out, hl]), HB.out⟩
      · have d1 : decide ((l.length : Int) ≤ 16) = false := by simp only [decide_eq_false_iff_not]; omega
        have d2 : decide (l.length ≤ 16) = false := by simpa using hl
        go_wp2
        go_ret
        exact ⟨ret_b (by simp [few, Ha.out, hl]), HB.out⟩
end Go.Proofs.Lw
end
section
set_option linter.unusedSimpArgs false
set_option linter.unusedVariables false
namespace Go.Proofs.Lw
open Go.RowKit Go.Sort Go.Proofs.YtehddihmndpgaaaGreatDoorW.PrintWords Go.Proofs.YtehddihmndpgaaaGreatDoor.PLib
/-- What is asked of sane. -/
def Sane (G : World → Prop) : Prop := ∀ w, G w → Calls Tryz.prog 7 #[] w fun e w' => e = .returned (.bool true) ∧ Below w.heap.size w w'
theorem few_len {l : List S48} (h : few l = true) : l.length ≤ 16 := by
  unfold few at h
  simp only [Bool.and_eq_true, decide_eq_true_eq] at h
  exact h.2
theorem join_err {a b : List S48} {z : Int} (h : Ldg.joinR st a b = .error z) : z ≠ 0 := by
  unfold Ldg.joinR at h
  split at h
  · cases h; decide
  · split at h
    · split at h
      · cases h
      · cases h; decide
    · cases h; decide
theorem merge_err {chk : S48 → Int} {a b : List S48} {z : Int} (h : Ldg.mergeR st chk a b = .error z) : z ≠ 0 := by
  unfold Ldg.mergeR at h
  split at h
  · next h1 => cases h; exact h1
  · split at h
    · next h1 => cases h; exact h1
    · exact join_err h
theorem bt {a b : World} {e : Ending} (he : e = .returned (.bool true)) (h : Below a.heap.size a b) : e = .returned (.bool true) ∧ Below a.heap.size a b := ⟨he, h⟩
set_option maxHeartbeats 8000000
set_option maxRecDepth 100000 in
theorem three_any {G : World → Prop} {chk : S48 → Int} (hC : Chk G chk) (hS : Sane G) (A B C : Option Addr) (ca cb cc : Nat) (la lb lc : List S48) (w : World) (ha : Kd.C k48 w A la.length la) (hca : la.length ≤ ca) (hb : Kd.C k48 w B lb.length lb) (hcb : lb.length ≤ cb) (hc : Kd.C k48 w C lc.length lc) (hcc : lc.length ≤ cc) (hGw : G w) :
    Calls Tryz.prog 4 #[.slice A la.length ca, .slice B lb.length cb, .slice C lc.length cc] w fun e w' => e = .returned (.bool true) ∧ Below w.heap.size w w' := by
  have tr : ∀ W W' : World, Below w.heap.size w W → Below W.heap.size W W' → Below w.heap.size w W' := fun W W' h h' => h.trans (h'.mono h.size)
  have cS := hS w hGw
  have cA := fun W (h : Below w.heap.size w W) => few_any A ca la W (Kd.C_below ha h)
  have cB := fun W (h : Below w.heap.size w W) => few_any B cb lb W (Kd.C_below hb h)
  have cCc := fun W (h : Below w.heap.size w W) => few_any C cc lc W (Kd.C_below hc h)
  have mAB := fun W (h : Below w.heap.size w W) => merge_any hC A B ca cb la lb W (Kd.C_below ha h) hca (Kd.C_below hb h) hcb (hC.keep _ _ hGw h)
  have mBC := fun W (h : Below w.heap.size w W) => merge_any hC B C cb cc lb lc W (Kd.C_below hb h) hcb (Kd.C_below hc h) hcc (hC.keep _ _ hGw h)
  go_enter Tryz.func4, Tryz.ntmps4
  by_cases fa : few la = true
  · rw [fa] at cA
    by_cases fb : few lb = true
    · rw [fb] at cB
      by_cases fc : few lc = true
      · rw [fc] at cCc
        have hla : la.length ≤ 16 := few_len fa
        have hlb : lb.length ≤ 16 := few_len fb
        have hlc : lc.length ≤ 16 := few_len fc
        obtain ⟨r1, hr1⟩ : ∃ r, Ldg.mergeR st chk la lb = r := ⟨_, rfl⟩
        obtain ⟨r2, hr2⟩ : ∃ r, Ldg.mergeR st chk lb lc = r := ⟨_, rfl⟩
        rw [hr1] at mAB
        rw [hr2] at mBC
        cases r1 with
        | error z1 =>
          have n1 : (z1 != 0) = true := by simpa using merge_err hr1
          have n1' : (z1 == 0) = false := by simpa using merge_err hr1
          cases r2 with
          | error z2 =>
            go_wp2_with (first
              | (go_at_call 10; refine (mBC _ (tr _ _ (tr _ _ (tr _ _ (tr _ _ hB1 hB2) hB3) hB4) hB5)).mono ?_; rintro e W6 ⟨hB6, rfl⟩)
              | (go_at_call 10; refine (mAB _ (tr _ _ (tr _ _ (tr _ _ hB1 hB2) hB3) hB4)).mono ?_; rintro e W5 ⟨hB5, rfl⟩)
              | (go_at_call 8; refine (cCc _ (tr _ _ (tr _ _ hB1 hB2) hB3)).mono ?_; rintro e W4 ⟨rfl, hB4⟩)
              | (go_at_call 8; refine (cB _ (tr _ _ hB1 hB2)).mono ?_; rintro e W3 ⟨rfl, hB3⟩)
              | (go_at_call 8; refine (cA _ hB1).mono ?_; rintro e W2 ⟨rfl, hB2⟩)
              | (go_at_call 7; refine cS.mono ?_; rintro e W1 ⟨rfl, hB1⟩))
            go_ret
            refine ⟨by first | rfl | simp, ?_⟩
            first | exact (tr _ _ (tr _ _ (tr _ _ (tr _ _ (tr _ _ (tr _ _ (tr _ _ (tr _ _ hB1 hB2) hB3) hB4) hB5) hB6) hB7) hB8) hB9) | exact (tr _ _ (tr _ _ (tr _ _ (tr _ _ (tr _ _ (tr _ _ (tr _ _ hB1 hB2) hB3) hB4) hB5) hB6) hB7) hB8) | exact (tr _ _ (tr _ _ (tr _ _ (tr _ _ (tr _ _ (tr _ _ hB1 hB2) hB3) hB4) hB5) hB6) hB7) | exact (tr _ _ (tr _ _ (tr _ _ (tr _ _ (tr _ _ hB1 hB2) hB3) hB4) hB5) hB6) | exact (tr _ _ (tr _ _ (tr _ _ (tr _ _ hB1 hB2) hB3) hB4) hB5) | exact (tr _ _ (tr _ _ (tr _ _ hB1 hB2) hB3) hB4) | exact (tr _ _ (tr _ _ hB1 hB2) hB3) | exact (tr _ _ hB1 hB2) | exact hB1
          | ok bc =>
            go_wp2_with (first
              | (go_at_call 10; refine (mBC _ (tr _ _ (tr _ _ (tr _ _ (tr _ _ hB1 hB2) hB3) hB4) hB5)).mono ?_; rintro e W6 ⟨hB6, X2, x2, rfl, l2, C2⟩)
              | (go_at_call 10; refine (mAB _ (tr _ _ (tr _ _ (tr _ _ hB1 hB2) hB3) hB4)).mono ?_; rintro e W5 ⟨hB5, rfl⟩)
              | (go_at_call 8; refine (cCc _ (tr _ _ (tr _ _ hB1 hB2) hB3)).mono ?_; rintro e W4 ⟨rfl, hB4⟩)
              | (go_at_call 8; refine (cB _ (tr _ _ hB1 hB2)).mono ?_; rintro e W3 ⟨rfl, hB3⟩)
              | (go_at_call 8; refine (cA _ hB1).mono ?_; rintro e W2 ⟨rfl, hB2⟩)
              | (go_at_call 7; refine cS.mono ?_; rintro e W1 ⟨rfl, hB1⟩))
            go_ret
            refine ⟨by first | rfl | simp, ?_⟩
            first | exact (tr _ _ (tr _ _ (tr _ _ (tr _ _ (tr _ _ (tr _ _ (tr _ _ (tr _ _ hB1 hB2) hB3) hB4) hB5) hB6) hB7) hB8) hB9) | exact (tr _ _ (tr _ _ (tr _ _ (tr _ _ (tr _ _ (tr _ _ (tr _ _ hB1 hB2) hB3) hB4) hB5) hB6) hB7) hB8) | exact (tr _ _ (tr _ _ (tr _ _ (tr _ _ (tr _ _ (tr _ _ hB1 hB2) hB3) hB4) hB5) hB6) hB7) | exact (tr _ _ (tr _ _ (tr _ _ (tr _ _ (tr _ _ hB1 hB2) hB3) hB4) hB5) hB6) | exact (tr _ _ (tr _ _ (tr _ _ (tr _ _ hB1 hB2) hB3) hB4) hB5) | exact (tr _ _ (tr _ _ (tr _ _ hB1 hB2) hB3) hB4) | exact (tr _ _ (tr _ _ hB1 hB2) hB3) | exact (tr _ _ hB1 hB2) | exact hB1
        | ok ab =>
          cases r2 with
          | error z2 =>
            have n2 : (z2 != 0) = true := by simpa using merge_err hr2
            have n2' : (z2 == 0) = false := by simpa using merge_err hr2
            go_wp2_with (first
              | (go_at_call 10; refine (mBC _ (tr _ _ (tr _ _ (tr _ _ (tr _ _ hB1 hB2) hB3) hB4) hB5)).mono ?_; rintro e W6 ⟨hB6, rfl⟩)
              | (go_at_call 10; refine (mAB _ (tr _ _ (tr _ _ (tr _ _ hB1 hB2) hB3) hB4)).mono ?_; rintro e W5 ⟨hB5, X1, x1, rfl, l1, C1⟩)
              | (go_at_call 8; refine (cCc _ (tr _ _ (tr _ _ hB1 hB2) hB3)).mono ?_; rintro e W4 ⟨rfl, hB4⟩)
              | (go_at_call 8; refine (cB _ (tr _ _ hB1 hB2)).mono ?_; rintro e W3 ⟨rfl, hB3⟩)
              | (go_at_call 8; refine (cA _ hB1).mono ?_; rintro e W2 ⟨rfl, hB2⟩)
              | (go_at_call 7; refine cS.mono ?_; rintro e W1 ⟨rfl, hB1⟩))
            go_ret
            refine ⟨by first | rfl | simp, ?_⟩
            first | exact (tr _ _ (tr _ _ (tr _ _ (tr _ _ (tr _ _ (tr _ _ (tr _ _ (tr _ _ hB1 hB2) hB3) hB4) hB5) hB6) hB7) hB8) hB9) | exact (tr _ _ (tr _ _ (tr _ _ (tr _ _ (tr _ _ (tr _ _ (tr _ _ hB1 hB2) hB3) hB4) hB5) hB6) hB7) hB8) | exact (tr _ _ (tr _ _ (tr _ _ (tr _ _ (tr _ _ (tr _ _ hB1 hB2) hB3) hB4) hB5) hB6) hB7) | exact (tr _ _ (tr _ _ (tr _ _ (tr _ _ (tr _ _ hB1 hB2) hB3) hB4) hB5) hB6) | exact (tr _ _ (tr _ _ (tr _ _ (tr _ _ hB1 hB2) hB3) hB4) hB5) | exact (tr _ _ (tr _ _ (tr _ _ hB1 hB2) hB3) hB4) | exact (tr _ _ (tr _ _ hB1 hB2) hB3) | exact (tr _ _ hB1 hB2) | exact hB1
          | ok bc =>
            have hlaw := Ldg.law_three (st := st) (chk := chk) (hst := hC.st) hla hlb hlc hr1 hr2
            obtain ⟨r, hr⟩ : ∃ r, Ldg.mergeR st chk ab lc = r := ⟨_, rfl⟩
            have hr' : Ldg.mergeR st chk la bc = r := by rw [← hlaw, hr]
            have mABC := fun X x W (h : Below w.heap.size w W) (hX : Kd.C k48 W X ab.length ab) (hl : ab.length ≤ x) => merge_any hC X C x cc ab lc W hX hl (Kd.C_below hc h) hcc (hC.keep _ _ hGw h)
            have mA_BC := fun X x W (h : Below w.heap.size w W) (hX : Kd.C k48 W X bc.length bc) (hl : bc.length ≤ x) => merge_any hC A X ca x la bc W (Kd.C_below ha h) hca hX hl (hC.keep _ _ hGw h)
            rw [hr] at mABC
            rw [hr'] at mA_BC
            cases r with
            | error z =>
              have nilC : ∀ W, Kd.C k48 W none ([] : List S48).length [] := fun W => ⟨rfl, by simp, fun h => by simp at h⟩
              have cE := fun W => refsame_any none none 0 0 [] [] W (nilC W) (nilC W)
              go_wp2_with (first
                | (go_at_call 12; refine (cE _).mono ?_; rintro e W9 ⟨rfl, hB9⟩)
                | (go_at_call 10; refine (mA_BC X2 x2 _ (tr _ _ (tr _ _ (tr _ _ (tr _ _ (tr _ _ (tr _ _ hB1 hB2) hB3) hB4) hB5) hB6) hB7) (Kd.C_below C2 hB7) l2).mono ?_; rintro e W8 ⟨hB8, rfl⟩)
                | (go_at_call 10; refine (mABC X1 x1 _ (tr _ _ (tr _ _ (tr _ _ (tr _ _ (tr _ _ hB1 hB2) hB3) hB4) hB5) hB6) (Kd.C_below C1 hB6) l1).mono ?_; rintro e W7 ⟨hB7, rfl⟩)
                | (go_at_call 10; refine (mBC _ (tr _ _ (tr _ _ (tr _ _ (tr _ _ hB1 hB2) hB3) hB4) hB5)).mono ?_; rintro e W6 ⟨hB6, X2, x2, rfl, l2, C2⟩)
                | (go_at_call 10; refine (mAB _ (tr _ _ (tr _ _ (tr _ _ hB1 hB2) hB3) hB4)).mono ?_; rintro e W5 ⟨hB5, X1, x1, rfl, l1, C1⟩)
                | (go_at_call 8; refine (cCc _ (tr _ _ (tr _ _ hB1 hB2) hB3)).mono ?_; rintro e W4 ⟨rfl, hB4⟩)
                | (go_at_call 8; refine (cB _ (tr _ _ hB1 hB2)).mono ?_; rintro e W3 ⟨rfl, hB3⟩)
                | (go_at_call 8; refine (cA _ hB1).mono ?_; rintro e W2 ⟨rfl, hB2⟩)
                | (go_at_call 7; refine cS.mono ?_; rintro e W1 ⟨rfl, hB1⟩))
              go_ret
              refine ⟨by first | rfl | simp, ?_⟩
              first | exact (tr _ _ (tr _ _ (tr _ _ (tr _ _ (tr _ _ (tr _ _ (tr _ _ (tr _ _ hB1 hB2) hB3) hB4) hB5) hB6) hB7) hB8) hB9) | exact (tr _ _ (tr _ _ (tr _ _ (tr _ _ (tr _ _ (tr _ _ (tr _ _ hB1 hB2) hB3) hB4) hB5) hB6) hB7) hB8) | exact (tr _ _ (tr _ _ (tr _ _ (tr _ _ (tr _ _ (tr _ _ hB1 hB2) hB3) hB4) hB5) hB6) hB7) | exact (tr _ _ (tr _ _ (tr _ _ (tr _ _ (tr _ _ hB1 hB2) hB3) hB4) hB5) hB6) | exact (tr _ _ (tr _ _ (tr _ _ (tr _ _ hB1 hB2) hB3) hB4) hB5) | exact (tr _ _ (tr _ _ (tr _ _ hB1 hB2) hB3) hB4) | exact (tr _ _ (tr _ _ hB1 hB2) hB3) | exact (tr _ _ hB1 hB2) | exact hB1
            | ok x =>
              go_wp2_with (first
                | (go_at_call 12; refine (refsame_any X3 X4 x3 x4 x x _ (Kd.C_below C3 hB8) C4).mono ?_; rintro e W9 ⟨rfl, hB9⟩)
                | (go_at_call 10; refine (mA_BC X2 x2 _ (tr _ _ (tr _ _ (tr _ _ (tr _ _ (tr _ _ (tr _ _ hB1 hB2) hB3) hB4) hB5) hB6) hB7) (Kd.C_below C2 hB7) l2).mono ?_; rintro e W8 ⟨hB8, X4, x4, rfl, l4, C4⟩)
                | (go_at_call 10; refine (mABC X1 x1 _ (tr _ _ (tr _ _ (tr _ _ (tr _ _ (tr _ _ hB1 hB2) hB3) hB4) hB5) hB6) (Kd.C_below C1 hB6) l1).mono ?_; rintro e W7 ⟨hB7, X3, x3, rfl, l3, C3⟩)
                | (go_at_call 10; refine (mBC _ (tr _ _ (tr _ _ (tr _ _ (tr _ _ hB1 hB2) hB3) hB4) hB5)).mono ?_; rintro e W6 ⟨hB6, X2, x2, rfl, l2, C2⟩)
                | (go_at_call 10; refine (mAB _ (tr _ _ (tr _ _ (tr _ _ hB1 hB2) hB3) hB4)).mono ?_; rintro e W5 ⟨hB5, X1, x1, rfl, l1, C1⟩)
                | (go_at_call 8; refine (cCc _ (tr _ _ (tr _ _ hB1 hB2) hB3)).mono ?_; rintro e W4 ⟨rfl, hB4⟩)
                | (go_at_call 8; refine (cB _ (tr _ _ hB1 hB2)).mono ?_; rintro e W3 ⟨rfl, hB3⟩)
                | (go_at_call 8; refine (cA _ hB1).mono ?_; rintro e W2 ⟨rfl, hB2⟩)
                | (go_at_call 7; refine cS.mono ?_; rintro e W1 ⟨rfl, hB1⟩))
              go_ret
              refine ⟨by first | rfl | simp, ?_⟩
              first | exact (tr _ _ (tr _ _ (tr _ _ (tr _ _ (tr _ _ (tr _ _ (tr _ _ (tr _ _ hB1 hB2) hB3) hB4) hB5) hB6) hB7) hB8) hB9) | exact (tr _ _ (tr _ _ (tr _ _ (tr _ _ (tr _ _ (tr _ _ (tr _ _ hB1 hB2) hB3) hB4) hB5) hB6) hB7) hB8) | exact (tr _ _ (tr _ _ (tr _ _ (tr _ _ (tr _ _ (tr _ _ hB1 hB2) hB3) hB4) hB5) hB6) hB7) | exact (tr _ _ (tr _ _ (tr _ _ (tr _ _ (tr _ _ hB1 hB2) hB3) hB4) hB5) hB6) | exact (tr _ _ (tr _ _ (tr _ _ (tr _ _ hB1 hB2) hB3) hB4) hB5) | exact (tr _ _ (tr _ _ (tr _ _ hB1 hB2) hB3) hB4) | exact (tr _ _ (tr _ _ hB1 hB2) hB3) | exact (tr _ _ hB1 hB2) | exact hB1
      · have fc' : few lc = false := by simpa using fc
        rw [fc'] at cCc
        go_wp2_with (first
          | (go_at_call 8; refine (cCc _ (tr _ _ (tr _ _ hB1 hB2) hB3)).mono ?_; rintro e W4 ⟨rfl, hB4⟩)
          | (go_at_call 8; refine (cB _ (tr _ _ hB1 hB2)).mono ?_; rintro e W3 ⟨rfl, hB3⟩)
          | (go_at_call 8; refine (cA _ hB1).mono ?_; rintro e W2 ⟨rfl, hB2⟩)
          | (go_at_call 7; refine cS.mono ?_; rintro e W1 ⟨rfl, hB1⟩))
        go_ret
        refine ⟨by first | rfl | simp, ?_⟩
        first | exact (tr _ _ (tr _ _ (tr _ _ (tr _ _ (tr _ _ (tr _ _ (tr _ _ (tr _ _ hB1 hB2) hB3) hB4) hB5) hB6) hB7) hB8) hB9) | exact (tr _ _ (tr _ _ (tr _ _ (tr _ _ (tr _ _ (tr _ _ (tr _ _ hB1 hB2) hB3) hB4) hB5) hB6) hB7) hB8) | exact (tr _ _ (tr _ _ (tr _ _ (tr _ _ (tr _ _ (tr _ _ hB1 hB2) hB3) hB4) hB5) hB6) hB7) | exact (tr _ _ (tr _ _ (tr _ _ (tr _ _ (tr _ _ hB1 hB2) hB3) hB4) hB5) hB6) | exact (tr _ _ (tr _ _ (tr _ _ (tr _ _ hB1 hB2) hB3) hB4) hB5) | exact (tr _ _ (tr _ _ (tr _ _ hB1 hB2) hB3) hB4) | exact (tr _ _ (tr _ _ hB1 hB2) hB3) | exact (tr _ _ hB1 hB2) | exact hB1
    · have fb' : few lb = false := by simpa using fb
      rw [fb'] at cB
      go_wp2_with (first
        | (go_at_call 8; refine (cB _ (tr _ _ hB1 hB2)).mono ?_; rintro e W3 ⟨rfl, hB3⟩)
        | (go_at_call 8; refine (cA _ hB1).mono ?_; rintro e W2 ⟨rfl, hB2⟩)
        | (go_at_call 7; refine cS.mono ?_; rintro e W1 ⟨rfl, hB1⟩))
      go_ret
      refine ⟨by first | rfl | simp, ?_⟩
      first | exact (tr _ _ (tr _ _ (tr _ _ (tr _ _ (tr _ _ (tr _ _ (tr _ _ (tr _ _ hB1 hB2) hB3) hB4) hB5) hB6) hB7) hB8) hB9) | exact (tr _ _ (tr _ _ (tr _ _ (tr _ _ (tr _ _ (tr _ _ (tr _ _ hB1 hB2) hB3) hB4) hB5) hB6) hB7) hB8) | exact (tr _ _ (tr _ _ (tr _ _ (tr _ _ (tr _ _ (tr _ _ hB1 hB2) hB3) hB4) hB5) hB6) hB7) | exact (tr _ _ (tr _ _ (tr _ _ (tr _ _ (tr _ _ hB1 hB2) hB3) hB4) hB5) hB6) | exact (tr _ _ (tr _ _ (tr _ _ (tr _ _ hB1 hB2) hB3) hB4) hB5) | exact (tr _ _ (tr _ _ (tr _ _ hB1 hB2) hB3) hB4) | exact (tr _ _ (tr _ _ hB1 hB2) hB3) | exact (tr _ _ hB1 hB2) | exact hB1
  · have fa' : few la = false := by simpa using fa
    rw [fa'] at cA
    go_wp2_with (first
      | (go_at_call 8; refine (cA _ hB1).mono ?_; rintro e W2 ⟨rfl, hB2⟩)
      | (go_at_call 7; refine cS.mono ?_; rintro e W1 ⟨rfl, hB1⟩))
    go_ret
    refine ⟨by first | rfl | simp, ?_⟩
    first | exact (tr _ _ (tr _ _ (tr _ _ (tr _ _ (tr _ _ (tr _ _ (tr _ _ (tr _ _ hB1 hB2) hB3) hB4) hB5) hB6) hB7) hB8) hB9) | exact (tr _ _ (tr _ _ (tr _ _ (tr _ _ (tr _ _ (tr _ _ (tr _ _ hB1 hB2) hB3) hB4) hB5) hB6) hB7) hB8) | exact (tr _ _ (tr _ _ (tr _ _ (tr _ _ (tr _ _ (tr _ _ hB1 hB2) hB3) hB4) hB5) hB6) hB7) | exact (tr _ _ (tr _ _ (tr _ _ (tr _ _ (tr _ _ hB1 hB2) hB3) hB4) hB5) hB6) | exact (tr _ _ (tr _ _ (tr _ _ (tr _ _ hB1 hB2) hB3) hB4) hB5) | exact (tr _ _ (tr _ _ (tr _ _ hB1 hB2) hB3) hB4) | exact (tr _ _ (tr _ _ hB1 hB2) hB3) | exact (tr _ _ hB1 hB2) | exact hB1
end Go.Proofs.Lw
end
section
set_option linter.unusedSimpArgs false
set_option linter.unusedVariables false
namespace Go.Proofs.Lw
open Go.RowKit Go.Proofs.YtehddihmndpgaaaGreatDoorW.PrintWords Go.Proofs.YtehddihmndpgaaaGreatDoor.PLib
theorem app1 (a : Value) : (#[a] ++ #[] : Array Value) = #[a] := rfl
theorem app2 (a b : Value) : (#[a] ++ #[b] : Array Value) = #[a, b] := rfl
theorem kind_1 (x : S48) (cs : List Value) (w : World) (hk : k48.K w x cs) (hG : Glob w) (hs : Ldg.StOK (st x)) (h : x.f1 = 1) :
    Calls Tryz.prog 18 #[.agg cs.toArray] w fun e w' => e = .returned (.int .i64 (if clrE x = baseE x then fldR x else 370)) ∧ Below w.heap.size w w' := by
  have hl := k48_len hk
  have e1 : clrE x = e41 x := by unfold clrE; simp [h]
  rw [e1]
  refine core_known x cs w hk hG hs 41 42 (fun _ _ => #[]) (fun b0 b1 => by rw [h]; rfl) (e41 x) (c41 cs) (fun W hK => c41_K hK) (fldR x) (fun W r b0 b1 h0 h1 hr => ?_) (fun W hK hg => ?_) (enters_of Tryz.func41 (by kernel_rfl) rfl) (enters_of Tryz.func42 (by kernel_rfl) rfl) _ (fun q => if_pos q) (fun q => if_neg q)
  · show Calls Tryz.prog 41 (#[_] ++ #[]) W _
    rw [app1]
    exact clr41 W r cs hl hr
  · have e2 := catalogue_t x cs W hK
    unfold fldR
    simp only [h]
    exact e2
theorem kind_2 (x : S48) (cs : List Value) (w : World) (hk : k48.K w x cs) (hG : Glob w) (hs : Ldg.StOK (st x)) (h : x.f1 = 2) :
    Calls Tryz.prog 18 #[.agg cs.toArray] w fun e w' => e = .returned (.int .i64 (if clrE x = baseE x then fldR x else 370)) ∧ Below w.heap.size w w' := by
  have hl := k48_len hk
  have e1 : clrE x = e39 x := by unfold clrE; simp [h]
  rw [e1]
  refine core_known x cs w hk hG hs 39 45 (fun b0 _ => #[.pointer (some ⟨b0, 0, none⟩)]) (fun b0 b1 => by rw [h]; rfl) (e39 x) (c39 cs) (fun W hK => c39_K hK) (fldR x) (fun W r b0 b1 h0 h1 hr => ?_) (fun W hK hg => ?_) (enters_of Tryz.func39 (by kernel_rfl) rfl) (enters_of Tryz.func45 (by kernel_rfl) rfl) _ (fun q => if_pos q) (fun q => if_neg q)
  · show Calls Tryz.prog 39 (#[_] ++ #[_]) W _
    rw [app2]
    exact clr39 W r b0 cs hl hr h0
  · have e2 := graded_t x cs W hK
    unfold fldR
    simp only [h]
    exact e2
theorem kind_3 (x : S48) (cs : List Value) (w : World) (hk : k48.K w x cs) (hG : Glob w) (hs : Ldg.StOK (st x)) (h : x.f1 = 3) :
    Calls Tryz.prog 18 #[.agg cs.toArray] w fun e w' => e = .returned (.int .i64 (if clrE x = baseE x then fldR x else 370)) ∧ Below w.heap.size w w' := by
  have hl := k48_len hk
  have e1 : clrE x = e40 x := by unfold clrE; simp [h]
  rw [e1]
  refine core_known x cs w hk hG hs 40 46 (fun b0 _ => #[.pointer (some ⟨b0, 0, none⟩)]) (fun b0 b1 => by rw [h]; rfl) (e40 x) (c40 cs) (fun W hK => c40_K hK) (fldR x) (fun W r b0 b1 h0 h1 hr => ?_) (fun W hK hg => ?_) (enters_of Tryz.func40 (by kernel_rfl) rfl) (enters_of Tryz.func46 (by kernel_rfl) rfl) _ (fun q => if_pos q) (fun q => if_neg q)
  · show Calls Tryz.prog 40 (#[_] ++ #[_]) W _
    rw [app2]
    exact clr40 W r b0 cs hl hr h0
  · have e2 := marked_t x cs W hK
    unfold fldR
    simp only [h]
    exact e2
theorem kind_4 (x : S48) (cs : List Value) (w : World) (hk : k48.K w x cs) (hG : Glob w) (hs : Ldg.StOK (st x)) (h : x.f1 = 4) :
    Calls Tryz.prog 18 #[.agg cs.toArray] w fun e w' => e = .returned (.int .i64 (if clrE x = baseE x then fldR x else 370)) ∧ Below w.heap.size w w' := by
  have hl := k48_len hk
  have e1 : clrE x = e47 x := by unfold clrE; simp [h]
  rw [e1]
  refine core_known x cs w hk hG hs 47 48 (fun _ b1 => #[.pointer (some ⟨b1, 0, none⟩)]) (fun b0 b1 => by rw [h]; rfl) (e47 x) (c47 cs) (fun W hK => c47_K hK) (fldR x) (fun W r b0 b1 h0 h1 hr => ?_) (fun W hK hg => ?_) (enters_of Tryz.func47 (by kernel_rfl) rfl) (enters_of Tryz.func48 (by kernel_rfl) rfl) _ (fun q => if_pos q) (fun q => if_neg q)
  · show Calls Tryz.prog 47 (#[_] ++ #[_]) W _
    rw [app2]
    exact clr47 W r b0 b1 cs hl hr h0 h1
  · have e2 := petitioned_t x cs W hK
    unfold fldR
    simp only [h]
    exact e2
theorem kind_5 (x : S48) (cs : List Value) (w : World) (hk : k48.K w x cs) (hG : Glob w) (hs : Ldg.StOK (st x)) (h : x.f1 = 5) :
    Calls Tryz.prog 18 #[.agg cs.toArray] w fun e w' => e = .returned (.int .i64 (if clrE x = baseE x then fldR x else 370)) ∧ Below w.heap.size w w' := by
  have hl := k48_len hk
  have e1 : clrE x = e40 x := by unfold clrE; simp [h]
  rw [e1]
  refine core_known x cs w hk hG hs 40 46 (fun b0 _ => #[.pointer (some ⟨b0, 0, none⟩)]) (fun b0 b1 => by rw [h]; rfl) (e40 x) (c40 cs) (fun W hK => c40_K hK) (fldR x) (fun W r b0 b1 h0 h1 hr => ?_) (fun W hK hg => ?_) (enters_of Tryz.func40 (by kernel_rfl) rfl) (enters_of Tryz.func46 (by kernel_rfl) rfl) _ (fun q => if_pos q) (fun q => if_neg q)
  · show Calls Tryz.prog 40 (#[_] ++ #[_]) W _
    rw [app2]
    exact clr40 W r b0 cs hl hr h0
  · have e2 := marked_t x cs W hK
    unfold fldR
    simp only [h]
    exact e2
theorem kind_6 (x : S48) (cs : List Value) (w : World) (hk : k48.K w x cs) (hG : Glob w) (hs : Ldg.StOK (st x)) (h : x.f1 = 6) :
    Calls Tryz.prog 18 #[.agg cs.toArray] w fun e w' => e = .returned (.int .i64 (if clrE x = baseE x then fldR x else 370)) ∧ Below w.heap.size w w' := by
  have hl := k48_len hk
  have e1 : clrE x = e49 x := by unfold clrE; simp [h]
  rw [e1]
  refine core_known x cs w hk hG hs 49 50 (fun _ _ => #[]) (fun b0 b1 => by rw [h]; rfl) (e49 x) (c49 cs) (fun W hK => c49_K hK) (fldR x) (fun W r b0 b1 h0 h1 hr => ?_) (fun W hK hg => ?_) (enters_of Tryz.func49 (by kernel_rfl) rfl) (enters_of Tryz.func50 (by kernel_rfl) rfl) _ (fun q => if_pos q) (fun q => if_neg q)
  · show Calls Tryz.prog 49 (#[_] ++ #[]) W _
    rw [app1]
    exact clr49 W r cs hl hr
  · have e2 := section_t x cs W hK hg
    unfold fldR
    simp only [h]
    exact e2
theorem kind_7 (x : S48) (cs : List Value) (w : World) (hk : k48.K w x cs) (hG : Glob w) (hs : Ldg.StOK (st x)) (h : x.f1 = 7) :
    Calls Tryz.prog 18 #[.agg cs.toArray] w fun e w' => e = .returned (.int .i64 (if clrE x = baseE x then fldR x else 370)) ∧ Below w.heap.size w w' := by
  have hl := k48_len hk
  have e1 : clrE x = e52 x := by unfold clrE; simp [h]
  rw [e1]
  refine core_known x cs w hk hG hs 52 53 (fun _ _ => #[]) (fun b0 b1 => by rw [h]; rfl) (e52 x) (c52 cs) (fun W hK => c52_K hK) (fldR x) (fun W r b0 b1 h0 h1 hr => ?_) (fun W hK hg => ?_) (enters_of Tryz.func52 (by kernel_rfl) rfl) (enters_of Tryz.func53 (by kernel_rfl) rfl) _ (fun q => if_pos q) (fun q => if_neg q)
  · show Calls Tryz.prog 52 (#[_] ++ #[]) W _
    rw [app1]
    exact clr52 W r cs hl hr
  · have e2 := request_t x cs W hK hg
    unfold fldR
    simp only [h]
    exact e2
theorem kind_8 (x : S48) (cs : List Value) (w : World) (hk : k48.K w x cs) (hG : Glob w) (hs : Ldg.StOK (st x)) (h : x.f1 = 8) :
    Calls Tryz.prog 18 #[.agg cs.toArray] w fun e w' => e = .returned (.int .i64 (if clrE x = baseE x then fldR x else 370)) ∧ Below w.heap.size w w' := by
  have hl := k48_len hk
  have e1 : clrE x = e39 x := by unfold clrE; simp [h]
  rw [e1]
  refine core_known x cs w hk hG hs 39 55 (fun b0 _ => #[.pointer (some ⟨b0, 0, none⟩)]) (fun b0 b1 => by rw [h]; rfl) (e39 x) (c39 cs) (fun W hK => c39_K hK) (fldR x) (fun W r b0 b1 h0 h1 hr => ?_) (fun W hK hg => ?_) (enters_of Tryz.func39 (by kernel_rfl) rfl) (enters_of Tryz.func55 (by kernel_rfl) rfl) _ (fun q => if_pos q) (fun q => if_neg q)
  · show Calls Tryz.prog 39 (#[_] ++ #[_]) W _
    rw [app2]
    exact clr39 W r b0 cs hl hr h0
  · have e2 := asked_t x cs W hK
    unfold fldR
    simp only [h]
    exact e2
theorem kind_9 (x : S48) (cs : List Value) (w : World) (hk : k48.K w x cs) (hG : Glob w) (hs : Ldg.StOK (st x)) (h : x.f1 = 9) :
    Calls Tryz.prog 18 #[.agg cs.toArray] w fun e w' => e = .returned (.int .i64 (if clrE x = baseE x then fldR x else 370)) ∧ Below w.heap.size w w' := by
  have hl := k48_len hk
  have e1 : clrE x = e56 x := by unfold clrE; simp [h]
  rw [e1]
  refine core_known x cs w hk hG hs 56 57 (fun _ _ => #[]) (fun b0 b1 => by rw [h]; rfl) (e56 x) (c56 cs) (fun W hK => c56_K hK) (fldR x) (fun W r b0 b1 h0 h1 hr => ?_) (fun W hK hg => ?_) (enters_of Tryz.func56 (by kernel_rfl) rfl) (enters_of Tryz.func57 (by kernel_rfl) rfl) _ (fun q => if_pos q) (fun q => if_neg q)
  · show Calls Tryz.prog 56 (#[_] ++ #[]) W _
    rw [app1]
    exact clr56 W r cs hl hr
  · have e2 := ticked_t x cs W hK
    unfold fldR
    simp only [h]
    exact e2
theorem chk_all : Chk Glob chkE := by
  refine ⟨fun w w' h hb => h.below hb, fun x cs w hk hG => ?_, fun x h => ?_⟩
  · unfold chkE
    by_cases hs : Ldg.StOK (st x)
    · rw [if_pos hs]
      by_cases hn : 1 ≤ x.f1 ∧ x.f1 ≤ 9
      · rw [if_pos hn]
        have : x.f1 = 1 ∨ x.f1 = 2 ∨ x.f1 = 3 ∨ x.f1 = 4 ∨ x.f1 = 5 ∨ x.f1 = 6 ∨ x.f1 = 7 ∨ x.f1 = 8 ∨ x.f1 = 9 := by omega
        rcases this with h | h | h | h | h | h | h | h | h
        · exact kind_1 x cs w hk hG hs h
        · exact kind_2 x cs w hk hG hs h
        · exact kind_3 x cs w hk hG hs h
        · exact kind_4 x cs w hk hG hs h
        · exact kind_5 x cs w hk hG hs h
        · exact kind_6 x cs w hk hG hs h
        · exact kind_7 x cs w hk hG hs h
        · exact kind_8 x cs w hk hG hs h
        · exact kind_9 x cs w hk hG hs h
      · rw [if_neg hn]
        refine core_none x cs w hk hG hs fun b0 b1 => ?_
        unfold kindOf
        rw [if_neg (by omega), if_neg (by omega), if_neg (by omega), if_neg (by omega), if_neg (by omega), if_neg (by omega), if_neg (by omega), if_neg (by omega), if_neg (by omega)]
    · rw [if_neg hs]
      exact core_stamp x cs w hk hs
  · unfold chkE at h
    by_cases hs : Ldg.StOK (st x)
    · exact hs
    · rw [if_neg hs] at h
      exact absurd h (by decide)
end Go.Proofs.Lw
end
