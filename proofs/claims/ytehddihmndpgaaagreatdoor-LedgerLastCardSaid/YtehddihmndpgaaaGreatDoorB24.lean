import Derived.OwnWalk
import Derived.StillTailTactics
import Derived.Test.YtehddihmndpgaaaGreatDoorB17
import Derived.Test.YtehddihmndpgaaaGreatDoorB21
import Derived.Test.YtehddihmndpgaaaGreatDoorB23
section
set_option linter.unusedSimpArgs false
set_option linter.unusedVariables false
namespace Go.Proofs.Lw
open Go.RowKit Go.Sort Go.Proofs.YtehddihmndpgaaaGreatDoorW.PrintWords Go.Proofs.YtehddihmndpgaaaGreatDoor.PLib
open Ldg (St cmpS)
theorem row_at {w : World} {b : Nat} {cs : List Value} {t : TypeId} (h : w.heap[b]? = some (.cells cs.toArray t (0, 0))) : ∀ j u, cs[j]? = some u → w.cell? ((⟨b, 0, none⟩ : Addr).add j) = some u := by
  intro j u hu
  have h2 := cell_of_row _ b j _ t (0, 0) h
  have h3 : (⟨b, 0, none⟩ : Addr).add j = ⟨b, j, none⟩ := by unfold Addr.add; by_cases h : j = 0 <;> simp [h]
  rw [h3, h2]
  simpa using hu
theorem one_row {w : World} {b : Nat} {cs : List Value} {y : S48} (h : w.heap[b]? = some (.cells cs.toArray 48 (0, 0))) (hK : k48.K w y cs) : Kd.C k48 w (some ⟨b, 0, none⟩) [y].length [y] := by
  refine ⟨rfl, by simp, fun _ => ⟨_, rfl, ?_⟩⟩
  intro j p hp
  cases j with
  | zero =>
    obtain rfl : y = p := by simpa using hp
    refine ⟨cs, k48_len hK, hK, fun i u hu => ?_⟩
    have := row_at h i u hu
    simpa using this
  | succ j => simp at hp
theorem wpList_build1 {P : Program} {ops : Array Oper} {rest : List Oper} {o : Oper} {a : Act} {w : World} {Q : Exit → Act → World → Prop} (hg : o.guard = none) (t e : TypeId) (x : Operand) (ho : o.op = .buildSlice t 1 #[(0, x)])
    (cs : List Value) (hx : a.eval x = .agg cs.toArray) (ie : TypeInfo) (z : Value) (hu : P.underlying t = some (.slice e)) (hie : P.info? e = some ie) (hz : ie.zero = some z) (hs : ie.size = cs.length) (hpos : 0 < cs.length) (hsm : cs.length ≤ 1000) (hzc : z.cells.size = cs.length)
    (h : wpList P ops Q rest (a.put o.dst (.slice (some ⟨w.heap.size, 0, none⟩) 1 1)) (w.alloc (.cells cs.toArray e))) : wpList P ops Q (o :: rest) a w :=
  wpList_plain hg fun _ hK => (wp_buildSlice t e 1 _ ho cs.toArray ie z hu hie hz (by omega) (by omega) (by
    have : ((#[(0, x)] : Array (Nat × Operand)).map fun (i, x) => (i, a.eval x)).toList = [(0, .agg cs.toArray)] := by simp [hx]
    rw [this, hs]
    exact fill_one cs _ _ rfl (by simp)) (hK _ _ h))
set_option maxHeartbeats 8000000
set_option maxRecDepth 100000 in
theorem put_any {G : World → Prop} {chk : S48 → Int} (hC : Chk G chk) (A : Option Addr) (ca : Nat) (la : List S48) (y : S48) (cs : List Value) (w : World) (ha : Kd.C k48 w A la.length la) (hca : la.length ≤ ca) (hy : k48.K w y cs) (hGw : G w) :
    Calls Tryz.prog 11 #[.slice A la.length ca, .agg cs.toArray] w (PutPost y w (Ldg.putR st chk la y)) := by
  have hmf : ∀ (fn : Fn) (first cap : Array Value) (w : World), (Instr.makeFunc fn first cap).run Tryz.prog w = .ok (.func fn first cap) w := fun _ _ _ _ => rfl
  have hcl := k48_len hy
  have hsz : (Tryz.prog.info? 48).map (·.size) = some cs.length := by rw [hcl]; exact info48
  have hone := k48_one hy
  obtain ⟨W1, hW1⟩ : ∃ W1, (w.alloc (.cells cs.toArray 48)).alloc (.cells #[.int .i64 0] 25) = W1 := ⟨_, rfl⟩
  have hB1 : Below w.heap.size w W1 := by rw [← hW1]; exact ((Below.refl _ w).alloc (Nat.le_refl _) _).alloc (by simp) _
  have hH1 : W1.heap[w.heap.size + 1]? = some (.cells #[.int .i64 0] 25 (0, 0)) := by
    rw [← hW1]; have := heap_alloc_new (w.alloc (.cells cs.toArray 48)) (.cells #[.int .i64 0] 25); rwa [World.size_alloc] at this
  have hN1 : W1.heap[w.heap.size]? = some (.cells cs.toArray 48 (0, 0)) := by rw [← hW1]; exact (alloc_old _ _ (by simp)).trans (heap_alloc_new w _)
  have cA := check_any hC A ca la W1 (Kd.C_below ha hB1) (hC.keep _ _ hGw hB1)
  obtain ⟨za, hza⟩ : ∃ za, Ldg.checkR st chk la = za := ⟨_, rfl⟩
  rw [hza] at cA
  have keepB : ∀ W, Below W1.heap.size W1 W → Below w.heap.size w W := fun W h => hB1.trans (h.mono hB1.size)
  have keepH : ∀ W, Below W1.heap.size W1 W → W.heap[w.heap.size + 1]? = some (.cells #[.int .i64 0] 25 (0, 0)) := fun W h => (h.block _ (Array.getElem?_eq_some_iff.1 hH1).1).trans hH1
  have keepN : ∀ W, Below W1.heap.size W1 W → W.heap[w.heap.size]? = some (.cells cs.toArray 48 (0, 0)) := fun W h => (h.block _ (Array.getElem?_eq_some_iff.1 hN1).1).trans hN1
  have fail : ∀ (z : Int) (W : World), Below w.heap.size w W → W.heap[w.heap.size + 1]? = some (.cells #[.int .i64 0] 25 (0, 0)) →
      CallsD Tryz.prog 25 #[.pointer (some ⟨w.heap.size + 1, 0, none⟩)] (.panicking (failV z)) W fun r u' w' => r = .returned (.tuple #[]) ∧ u' = .panicking [{ v := .iface 81 (.agg #[.int .i64 z]), recovered := true }] ∧
        w' = (W.alloc (.cells #[.int .i64 z] 81)).setCell ⟨w.heap.size + 1, 0, none⟩ (.int .i64 z) := fun z W _ hH =>
    putDefer_fail ⟨w.heap.size + 1, 0, none⟩ z (.int .i64 0) W (cell_of_row W (w.heap.size + 1) 0 _ 25 (0, 0) hH) (by simp [World.frozen?, hH]) (Array.getElem?_eq_some_iff.1 hH).1
  have cY := fun W (h : Below W1.heap.size W1 W) => hC.call y cs W (k48.K_below (keepB W h) hy) (hC.keep _ _ hGw (keepB W h))
  obtain ⟨zy, hzy⟩ : ∃ zy, chk y = zy := ⟨_, rfl⟩
  rw [hzy] at cY
  obtain ⟨i0, z0', hi, hz0, hz1, hz2, hz3⟩ := i48
  go_enter_defers Tryz.func11, Tryz.ntmps11
  by_cases ea : za = 0
  · subst ea
    by_cases ey : zy = 0
    · subst ey
      have hcam : ∀ x ∈ la ++ [y], 0 ≤ x.f0.f1 ∧ x.f0.f1 ≤ 6 := fun x hx => by
        rcases List.mem_append.1 hx with hx | hx
        · exact cam_of hC hza x hx
        · obtain rfl := List.mem_singleton.1 hx
          have := hC.st x hzy
          exact ⟨this.2.2.1, this.2.2.2.1⟩
      have hlen : la.length + [y].length ≤ 1000000 := by have := len_of hza; simp; omega
      have cJ := fun W (h : Below W1.heap.size W1 W) => joined_any A (some ⟨W.heap.size, 0, none⟩) ca 1 la [y] (W.alloc (.cells cs.toArray 48)) (Kd.C_below ha ((keepB W h).alloc (keepB W h).size _)) hca
        (one_row (heap_alloc_new W _) (k48.K_below ((keepB W h).alloc (keepB W h).size _) hy)) (by simp) hcam hlen
      obtain ⟨r, hr⟩ : ∃ r, Ldg.joinR st la [y] = r := ⟨_, rfl⟩
      rw [hr] at cJ
      have hm : Ldg.putR st chk la y = r := by unfold Ldg.putR; rw [if_neg (by simp [hza]), if_neg (by simp [hzy]), hr]
      rw [hm]
      have sh3 : ∀ W2 W3 : World, Below W1.heap.size W1 W2 → Below W2.heap.size W2 W3 → Below W1.heap.size W1 W3 := fun W2 W3 h h' => h.trans (h'.mono h.size)
      have sh5 : ∀ W3 W5 : World, Below W1.heap.size W1 W3 → Below (W3.alloc (.cells cs.toArray 48)).heap.size (W3.alloc (.cells cs.toArray 48)) W5 → Below W1.heap.size W1 W5 := fun W3 W5 h h' => (h.alloc h.size _).trans (h'.mono (by have := h.size; simp; omega))
      cases r with
      | ok x =>
        go_wp2_with (first
          | (go_at_call 9; refine cA.mono ?_; rintro e W2 ⟨rfl, hB2⟩)
          | (go_at_call 18; refine (cY _ hB2).mono ?_; rintro e W3 ⟨rfl, hB3⟩)
          | (go_at_call 23; refine (try_ok _).mono ?_; rintro e W4 ⟨rfl, rfl⟩)
          | (refine wpList_build1 rfl 22 48 _ rfl cs rfl i0 z0' Tryz.underlying22 hi hz0 (by rw [hz1, hcl]) (by omega) (by omega) (by rw [hz3, hcl]) ?_)
          | (go_at_call 24; refine (cJ _ (sh3 _ _ hB2 hB3)).mono ?_; rintro e W5 ⟨hB5, AX, cX, rfl, hlX, hCX⟩; have hB15 := sh5 _ _ (sh3 _ _ hB2 hB3) hB5; have kh := keepH _ hB15; have kc : W5.cell? ⟨w.heap.size + 1, 0, none⟩ = _ := cell_of_row W5 (w.heap.size + 1) 0 _ 25 (0, 0) kh; have kf : W5.frozen? ⟨w.heap.size + 1, 0, none⟩ = false := by simp [World.frozen?, kh])
          | (go_at_call 26; refine (index_any AX cX x y cs w.heap.size _ hCX (k48.K_below (keepB _ hB15) hy) (keepN _ hB15)).mono ?_; rintro e W6 ⟨rfl, hB6⟩; have hB16 := sh3 _ _ hB15 hB6; have kh6 := keepH _ hB16; have kc6 : W6.cell? ⟨w.heap.size + 1, 0, none⟩ = _ := cell_of_row W6 (w.heap.size + 1) 0 _ 25 (0, 0) kh6; have kf6 : W6.frozen? ⟨w.heap.size + 1, 0, none⟩ = false := by simp [World.frozen?, kh6])
          | (refine wpList_load_at rfl 48 _ rfl ⟨w.heap.size, 0, none⟩ rfl cs _ (row_at (keepN _ (sh3 _ _ hB2 hB3))) Tryz.underlying48 rfl hsz ?_)
          | (refine wpList_load_at rfl 48 _ rfl ⟨w.heap.size, 0, none⟩ rfl cs _ (row_at (keepN _ hB2)) Tryz.underlying48 rfl hsz ?_))
        have kb := keepB _ hB16
        rw [setCell_same kh6]
        refine leaves_cons (f := 25) (args := #[.pointer (some ⟨w.heap.size + 1, 0, none⟩)]) (by simp) (by simp [go_sem]) ?_
        refine (putDefer_idle ⟨w.heap.size + 1, 0, none⟩ _).mono ?_
        rintro e u' w'' ⟨rfl, rfl, rfl⟩
        exact ⟨.tuple #[.slice AX x.length cX, .int .i64 (idxR y x 0), .int .i64 0], by simp [results, Tryz.results11, go_sem, kc6], kb, AX, cX, rfl, hlX, Kd.C_below hCX hB6⟩
      | error z =>
        go_wp2_with (first
          | (go_at_call 9; refine cA.mono ?_; rintro e W2 ⟨rfl, hB2⟩)
          | (go_at_call 18; refine (cY _ hB2).mono ?_; rintro e W3 ⟨rfl, hB3⟩)
          | (go_at_call 23; refine (try_ok _).mono ?_; rintro e W4 ⟨rfl, rfl⟩)
          | (refine wpList_build1 rfl 22 48 _ rfl cs rfl i0 z0' Tryz.underlying22 hi hz0 (by rw [hz1, hcl]) (by omega) (by omega) (by rw [hz3, hcl]) ?_)
          | (go_at_call 24; refine (cJ _ (sh3 _ _ hB2 hB3)).mono ?_; rintro e W5 ⟨hB5, rfl⟩)
          | (refine wpList_load_at rfl 48 _ rfl ⟨w.heap.size, 0, none⟩ rfl cs _ (row_at (keepN _ (sh3 _ _ hB2 hB3))) Tryz.underlying48 rfl hsz ?_)
          | (refine wpList_load_at rfl 48 _ rfl ⟨w.heap.size, 0, none⟩ rfl cs _ (row_at (keepN _ hB2)) Tryz.underlying48 rfl hsz ?_))
        have hB15 := sh5 _ _ (sh3 _ _ hB2 hB3) hB5
        have kb := keepB _ hB15
        have kh := keepH _ hB15
        refine leaves_cons (f := 25) (args := #[.pointer (some ⟨w.heap.size + 1, 0, none⟩)]) (by simp) (by simp [go_sem]) ?_
        refine (fail z W5 kb kh).mono ?_
        rintro e u' w'' ⟨rfl, rfl, rfl⟩
        have hlt := (Array.getElem?_eq_some_iff.1 kh).1
        have hc : ((W5.alloc (.cells #[.int .i64 z] 81)).setCell ⟨w.heap.size + 1, 0, none⟩ (.int .i64 z)).cell? ⟨w.heap.size + 1, 0, none⟩ = some (.int .i64 z) :=
          cell_of_row _ (w.heap.size + 1) 0 _ 25 (0, 0) (box_set _ _ _ _ _ ((alloc_old W5 _ hlt).trans kh))
        refine ⟨.tuple #[.slice none 0 0, .int .i64 0, .int .i64 z], by simp [results, Tryz.results11, go_sem, hc], (kb.alloc kb.size _).setCell (p := ⟨w.heap.size + 1, 0, none⟩) (Nat.le_succ _) _, ?_⟩
        rfl
    · have sh3 : ∀ W2 W3 : World, Below W1.heap.size W1 W2 → Below W2.heap.size W2 W3 → Below W1.heap.size W1 W3 := fun W2 W3 h h' => h.trans (h'.mono h.size)
      go_wp2_with (first
        | (go_at_call 9; refine cA.mono ?_; rintro e W2 ⟨rfl, hB2⟩)
        | (go_at_call 18; refine (cY _ hB2).mono ?_; rintro e W3 ⟨rfl, hB3⟩)
        | (go_at_call 23; have hx := hB3; refine (try_no _ ey _).mono ?_; rintro e W5 ⟨rfl, rfl⟩)
        | (go_at_call 23; refine (try_ok _).mono ?_; rintro e W4 ⟨rfl, rfl⟩)
        | (refine wpList_load_at rfl 48 _ rfl ⟨w.heap.size, 0, none⟩ rfl cs _ (row_at (keepN _ (sh3 _ _ hB2 hB3))) Tryz.underlying48 rfl hsz ?_)
        | (refine wpList_load_at rfl 48 _ rfl ⟨w.heap.size, 0, none⟩ rfl cs _ (row_at (keepN _ hB2)) Tryz.underlying48 rfl hsz ?_))
      have hB13 := sh3 _ _ hB2 hB3
      have kb := keepB _ hB13
      have kh := keepH _ hB13
      refine leaves_cons (f := 25) (args := #[.pointer (some ⟨w.heap.size + 1, 0, none⟩)]) (by simp) (by simp [go_sem]) ?_
      refine (fail zy W3 kb kh).mono ?_
      rintro e u' w'' ⟨rfl, rfl, rfl⟩
      have hlt := (Array.getElem?_eq_some_iff.1 kh).1
      have hc : ((W3.alloc (.cells #[.int .i64 zy] 81)).setCell ⟨w.heap.size + 1, 0, none⟩ (.int .i64 zy)).cell? ⟨w.heap.size + 1, 0, none⟩ = some (.int .i64 zy) :=
        cell_of_row _ (w.heap.size + 1) 0 _ 25 (0, 0) (box_set _ _ _ _ _ ((alloc_old W3 _ hlt).trans kh))
      refine ⟨.tuple #[.slice none 0 0, .int .i64 0, .int .i64 zy], by simp [results, Tryz.results11, go_sem, hc], (kb.alloc kb.size _).setCell (p := ⟨w.heap.size + 1, 0, none⟩) (Nat.le_succ _) _, ?_⟩
      unfold Ldg.putR; rw [if_neg (by simp [hza]), if_pos (by rw [hzy]; exact ey), hzy]
  · go_wp2_with (first
      | (go_at_call 9; refine cA.mono ?_; rintro e W2 ⟨rfl, hB2⟩)
      | (go_at_call 23; refine (try_no _ ea _).mono ?_; rintro e W3 ⟨rfl, rfl⟩))
    have kb := keepB _ hB2
    have kh := keepH _ hB2
    refine leaves_cons (f := 25) (args := #[.pointer (some ⟨w.heap.size + 1, 0, none⟩)]) (by simp) (by simp [go_sem]) ?_
    refine (fail za W2 kb kh).mono ?_
    rintro e u' w'' ⟨rfl, rfl, rfl⟩
    have hlt := (Array.getElem?_eq_some_iff.1 kh).1
    have hc : ((W2.alloc (.cells #[.int .i64 za] 81)).setCell ⟨w.heap.size + 1, 0, none⟩ (.int .i64 za)).cell? ⟨w.heap.size + 1, 0, none⟩ = some (.int .i64 za) :=
      cell_of_row _ (w.heap.size + 1) 0 _ 25 (0, 0) (box_set _ _ _ _ _ ((alloc_old W2 _ hlt).trans kh))
    refine ⟨.tuple #[.slice none 0 0, .int .i64 0, .int .i64 za], by simp [results, Tryz.results11, go_sem, hc], (kb.alloc kb.size _).setCell (p := ⟨w.heap.size + 1, 0, none⟩) (Nat.le_succ _) _, ?_⟩
    unfold Ldg.putR; rw [if_pos (by rw [hza]; exact ea), hza]
end Go.Proofs.Lw
end
section
set_option linter.unusedSimpArgs false
set_option linter.unusedVariables false
namespace Go.Proofs.Lw
open Go.RowKit Go.Sort Go.Proofs.YtehddihmndpgaaaGreatDoorW.PrintWords Go.Proofs.YtehddihmndpgaaaGreatDoor.PLib
theorem run_index22_at {o : Oper} {a : Act} {w : World} (i j : Nat) (ho : o.op = .indexAddr 22 (.tmp i) (.tmp j)) (ad : Addr) (n k cap : Nat) (hk : k < n) (hx : a.eval (.tmp i) = .slice (some ad) n cap) (hy : a.eval (.tmp j) = .int .i64 k) :
    (execOp a.eval o).run Tryz.prog w = .ok (.value (.pointer (some (ad.add (k * 31))))) w := by
  have hu := Tryz.underlying22
  obtain ⟨i0, z0', hi, hz0, hz1, hz2, hz3⟩ := i48
  have e2 : (k : Int) < n := by omega
  unfold execOp
  simp only [ho, hx, hy]
  simp [go_sem, hu, hi, hz1, hk, e2]
theorem wpStill_index_at {ops : Array Oper} {w : World} {Q : Act → Prop} {rest : List Oper} {o : Oper} {a : Act} (hgd : o.guard = none) (i j : Nat) (ho : o.op = .indexAddr 22 (.tmp i) (.tmp j)) (ad : Addr) (n k cap : Nat) (hk : k < n) (hx : a.eval (.tmp i) = .slice (some ad) n cap) (hy : a.eval (.tmp j) = .int .i64 k)
    (h : wpStill Tryz.prog ops w Q rest (a.put o.dst (.pointer (some (ad.add (k * 31)))))) : wpStill Tryz.prog ops w Q (o :: rest) a := by
  refine wpStill_step fun K hK => ?_
  simp only [Region.wanted, hgd, if_true]
  unfold Oper.still
  rw [run_index22_at i j ho ad n k cap hk hx hy]
  exact ⟨rfl, hK _ h⟩
set_option maxHeartbeats 8000000
set_option maxRecDepth 100000 in
theorem refsame_any (A B : Option Addr) (c d : Nat) (la lb : List S48) (w : World) (ha : Kd.C k48 w A la.length la) (hb : Kd.C k48 w B lb.length lb) :
    Calls Tryz.prog 12 #[.slice A la.length c, .slice B lb.length d] w fun r w' => r = .returned (.bool (decide (la = lb))) ∧ Below w.heap.size w w' := by
  have hN : la.length ≤ 9223372036854775807 := ha.2.1
  go_enter Tryz.func12, Tryz.ntmps12
  by_cases hlen : la.length = lb.length
  · obtain ⟨n, hn⟩ : ∃ n, la.length = n := ⟨_, rfl⟩
    have hn' : lb.length = n := by omega
    rw [hn] at ha hN ⊢
    rw [hn'] at hb ⊢
    go_wp2
    go_loopw [5] (fun i wr => ∃ k : Nat, k ≤ n ∧ i = .int .i64 k ∧ la.take k = lb.take k ∧ Below w.heap.size w wr)
      (fun i _ => n - (intOf i).toNat)
    case atStart => exact ⟨0, Nat.zero_le _, rfl, by simp, Below.refl _ _⟩
    case round =>
      obtain ⟨k, hk, rfl, hd, hB⟩ := hrel
      by_cases hlt : k < n
      · obtain ⟨ad, cs, rfl, hK, hcell⟩ := ent_at (hn ▸ ha) k (by omega)
        obtain ⟨ad', ds, rfl, hK', hcell'⟩ := ent_at (hn' ▸ hb) k (by omega)
        have hsz : (Tryz.prog.info? 48).map (·.size) = some cs.length := by rw [k48_len hK]; exact info48
        have hsz' : (Tryz.prog.info? 48).map (·.size) = some ds.length := by rw [k48_len hK']; exact info48
        have HB := Lib.hid hB
        have Hd := Lib.hid hd
        clear hB hd
        by_cases hE : la[k] = lb[k]
        · have dE : decide (la[k] = lb[k]) = true := by simpa using hE
          go_wp2
          obtain ⟨W5, hW5⟩ : ∃ W5, ({ wr with drawn := wr.drawn + 1 } : World) = W5 := ⟨_, rfl⟩
          have hB5 : Below w.heap.size w W5 := by rw [← hW5]; exact ⟨HB.out.os, HB.out.tape, HB.out.output, HB.out.size, HB.out.block⟩
          have l5 : ∀ j u, cs[j]? = some u → W5.cell? ((ad.add (k * 31)).add j) = some u := fun j u hu => pw_cell_below hB5 (hcell j u hu)
          have l5' : ∀ j u, ds[j]? = some u → W5.cell? ((ad'.add (k * 31)).add j) = some u := fun j u hu => pw_cell_below hB5 (hcell' j u hu)
          have hsame := same37_any la[k] lb[k] cs ds W5 (k48.K_below hB5 hK) (k48.K_below hB5 hK')
          rw [dE] at hsame
          refine wp_region_still_tail 8 (by kernel_rfl) (by kernel_rfl) ?_
          rw [hW5]
          simp only [List.take_succ_cons, List.take_zero, List.drop_succ_cons, List.drop_zero]
          repeat (first
            | (refine wpStill_index_at rfl 17 18 rfl ad n k c hlt rfl rfl ?_; simp only [Act.put, List.setIfInBounds_toArray, List.set_cons_succ, List.set_cons_zero])
            | (refine wpStill_index_at rfl 21 22 rfl ad' n k d hlt rfl rfl ?_; simp only [Act.put, List.setIfInBounds_toArray, List.set_cons_succ, List.set_cons_zero])
            | (refine wpStill_load_at rfl 48 (.tmp 19) rfl (ad.add (k * 31)) rfl cs _ l5 Tryz.underlying48 rfl hsz ?_; simp only [Act.put, List.setIfInBounds_toArray, List.set_cons_succ, List.set_cons_zero])
            | (refine wpStill_load_at rfl 48 (.tmp 23) rfl (ad'.add (k * 31)) rfl ds _ l5' Tryz.underlying48 rfl hsz' ?_; simp only [Act.put, List.setIfInBounds_toArray, List.set_cons_succ, List.set_cons_zero])
            | still_step)
          refine wpStill_nil ?_
          clear hW5
          go_wp2_with (go_at_call 28; refine hsame.mono ?_; rintro e W6 ⟨rfl, hB6⟩)
          go_roundw
          case rel => exact ⟨k + 1, by omega, by go_num, by rw [List.take_add_one, List.take_add_one, Hd.out, List.getElem?_eq_getElem (by omega), List.getElem?_eq_getElem (by omega), hE], hB5.trans (hB6.mono hB5.size)⟩
          case measure => simp [intOf]; omega
        · have dE : decide (la[k] = lb[k]) = false := by simpa using hE
          go_wp2
          obtain ⟨W5, hW5⟩ : ∃ W5, ({ wr with drawn := wr.drawn + 1 } : World) = W5 := ⟨_, rfl⟩
          have hB5 : Below w.heap.size w W5 := by rw [← hW5]; exact ⟨HB.out.os, HB.out.tape, HB.out.output, HB.out.size, HB.out.block⟩
          have l5 : ∀ j u, cs[j]? = some u → W5.cell? ((ad.add (k * 31)).add j) = some u := fun j u hu => pw_cell_below hB5 (hcell j u hu)
          have l5' : ∀ j u, ds[j]? = some u → W5.cell? ((ad'.add (k * 31)).add j) = some u := fun j u hu => pw_cell_below hB5 (hcell' j u hu)
          have hsame := same37_any la[k] lb[k] cs ds W5 (k48.K_below hB5 hK) (k48.K_below hB5 hK')
          rw [dE] at hsame
          refine wp_region_still_tail 8 (by kernel_rfl) (by kernel_rfl) ?_
          rw [hW5]
          simp only [List.take_succ_cons, List.take_zero, List.drop_succ_cons, List.drop_zero]
          repeat (first
            | (refine wpStill_index_at rfl 17 18 rfl ad n k c hlt rfl rfl ?_; simp only [Act.put, List.setIfInBounds_toArray, List.set_cons_succ, List.set_cons_zero])
            | (refine wpStill_index_at rfl 21 22 rfl ad' n k d hlt rfl rfl ?_; simp only [Act.put, List.setIfInBounds_toArray, List.set_cons_succ, List.set_cons_zero])
            | (refine wpStill_load_at rfl 48 (.tmp 19) rfl (ad.add (k * 31)) rfl cs _ l5 Tryz.underlying48 rfl hsz ?_; simp only [Act.put, List.setIfInBounds_toArray, List.set_cons_succ, List.set_cons_zero])
            | (refine wpStill_load_at rfl 48 (.tmp 23) rfl (ad'.add (k * 31)) rfl ds _ l5' Tryz.underlying48 rfl hsz' ?_; simp only [Act.put, List.setIfInBounds_toArray, List.set_cons_succ, List.set_cons_zero])
            | still_step)
          refine wpStill_nil ?_
          clear hW5
          go_wp2_with (go_at_call 28; refine hsame.mono ?_; rintro e W6 ⟨rfl, hB6⟩)
          go_ret
          refine ⟨ret_b (Eq.symm (decide_eq_false fun e => hE ?_)), hB5.trans (hB6.mono hB5.size)⟩
          simp [e]
      · have e : la = lb := by rw [List.take_of_length_le (by omega), List.take_of_length_le (by omega)] at hd; exact hd
        have He := Lib.hid e
        have HB := Lib.hid hB
        clear hd hB
        go_wp2
        go_ret
        exact ⟨ret_b (Eq.symm (by simpa using He.out)), HB.out⟩
  · have e : ¬ la = lb := fun e => hlen (by rw [e])
    have d1 : decide ((la.length : Int) = lb.length) = false := by simp only [decide_eq_false_iff_not]; omega
    have d2 : decide (la.length = lb.length) = false := by simpa using hlen
    go_wp2
    go_ret
    exact ⟨ret_b (Eq.symm (by simpa using e)), Below.refl _ _⟩
end Go.Proofs.Lw
end
section
set_option linter.unusedSimpArgs false
set_option linter.unusedVariables false
namespace Go.Proofs.Lw
open Go.RowKit Go.Sort Go.Proofs.YtehddihmndpgaaaGreatDoorW.PrintWords Go.Proofs.YtehddihmndpgaaaGreatDoor.PLib
def fewE (x : S48) : Bool := decide (x.f7.size ≤ 1000 ∧ x.f8.f5.length ≤ 20 ∧ x.f8.f6.length ≤ 12 ∧ x.f8.f7.length ≤ 12 ∧ x.f9.f5.length ≤ 12)
def few (l : List S48) : Bool := l.all fewE && decide (l.length ≤ 16)
theorem fewE_f (x : S48) : sizarref39_FewEntry.f x.f0.f0 x.f0.f1 x.f0.f2 x.f1 x.f2 x.f3 x.f4 x.f5 x.f6.f0 x.f6.f1 x.f7 x.f8.f0 x.f8.f1 x.f8.f2 x.f8.f3 x.f8.f4 x.f8.f5 x.f8.f6 x.f8.f7 x.f8.f8 x.f9.f0 x.f9.f1 x.f9.f2 x.f9.f3 x.f9.f4 x.f9.f5 x.f9.f6.f0 x.f9.f6.f1 x.f9.f7 x.f10.f0 x.f10.f1 = some (fewE x) := by
  unfold sizarref39_FewEntry.f fewE
  by_cases h1 : x.f7.size ≤ 1000
  · by_cases h2 : x.f8.f5.length ≤ 20
    · by_cases h3 : x.f8.f6.length ≤ 12
      · by_cases h4 : x.f8.f7.length ≤ 12
        · rw [if_pos (by omega), if_pos (by omega), if_pos (by omega), if_pos (by omega)]
          congr 1
          by_cases h5 : x.f9.f5.length ≤ 12
          · rw [decide_eq_true (by omega), decide_eq_true ⟨h1, h2, h3, h4, h5⟩]
          · rw [decide_eq_false (by omega), decide_eq_false (fun h => h5 h.2.2.2.2)]
        · rw [if_pos (by omega), if_pos (by omega), if_pos (by omega), if_neg (by omega), decide_eq_false (fun h => h4 h.2.2.2.1)]
      · rw [if_pos (by omega), if_pos (by omega), if_neg (by omega), decide_eq_false (fun h => h3 h.2.2.1)]
    · rw [if_pos (by omega), if_neg (by omega), decide_eq_false (fun h => h2 h.2.1)]
  · rw [if_neg (by omega), decide_eq_false (fun h => h1 h.1)]
theorem fewE_any (x : S48) (cs : List Value) (w : World) (hx : k48.K w x cs) : Calls Tryz.prog 13 #[.agg cs.toArray] w fun e w' => e = .returned (.bool (fewE x)) ∧ Below w.heap.size w w' := by
  obtain ⟨A5, c5, A6, c6, A7, c7, A9, c9, rfl, l5, h5, l6, h6, l7, h7, l9, h9⟩ := k48_open hx
  exact sizarref39_FewEntry.calls _ _ _ _ _ _ _ _ _ _ _ _ _ _ _ _ A5 c5 _ A6 c6 _ A7 c7 _ _ _ _ _ _ _ A9 c9 _ _ _ _ _ _ _ w h5 l5 h6 l6 h7 l7 h9 l9 (fewE_f x)
set_option maxHeartbeats 8000000
set_option maxRecDepth 100000 in
theorem few_any (A : Option Addr) (c : Nat) (l : List S48) (w : World) (h : Kd.C k48 w A l.length l) :
    Calls Tryz.prog 8 #[.slice A l.length c] w fun r w' => r = .returned (.bool (few l)) ∧ Below w.heap.size w w' := by
  have hN : l.length ≤ 9223372036854775807 := h.2.1
  go_enter Tryz.func8, Tryz.ntmps8
  go_wp2
  go_loopw [3] (fun i wr => ∃ k : Nat, k ≤ l.length ∧ i = .int .i64 k ∧ (∀ x ∈ l.take k, fewE x = true) ∧ Below w.heap.size w wr)
    (fun i _ => l.length - (intOf i).toNat)
  case atStart => exact ⟨0, Nat.zero_le _, rfl, by simp, Below.refl _ _⟩
  case round =>
    obtain ⟨k, hk, rfl, hd, hB⟩ := hrel
    by_cases hlt : k < l.length
    · obtain ⟨ad, cs, rfl, hK, hcell⟩ := ent_at h k hlt
      have hcw : ∀ j u, cs[j]? = some u → wr.cell? ((ad.add (k * 31)).add j) = some u := fun j u hu => pw_cell_below hB (hcell j u hu)
      have hsz : (Tryz.prog.info? 48).map (·.size) = some cs.length := by rw [k48_len hK]; exact info48
      have hcall := fewE_any l[k] cs wr (k48.K_below hB hK)
      have Hd := Lib.hid hd
      have HB := Lib.hid hB
      clear hd hB
      by_cases h0 : fewE l[k] = true
      · rw [h0] at hcall
        go_wp2_with (first
          | (go_at_call 13; refine hcall.mono ?_; rintro e W2 ⟨rfl, hB2⟩)
          | (refine wpList_load_at rfl 48 _ rfl (ad.add (k * 31)) rfl cs _ hcw Tryz.underlying48 rfl hsz ?_))
        go_roundw
        case rel =>
          refine ⟨k + 1, by omega, by go_num, ?_, HB.out.trans (hB2.mono HB.out.size)⟩
          intro x hx
          rw [List.take_add_one, List.getElem?_eq_getElem hlt] at hx
          rcases List.mem_append.1 hx with hx | hx
          · exact Hd.out x hx
          · simp at hx; rw [hx]; exact h0
        case measure => simp [intOf]; omega
      · have h0' : fewE l[k] = false := by simpa using h0
        rw [h0'] at hcall
        go_wp2_with (first
          | (go_at_call 13; refine hcall.mono ?_; rintro e W2 ⟨rfl, hB2⟩)
          | (refine wpList_load_at rfl 48 _ rfl (ad.add (k * 31)) rfl cs _ hcw Tryz.underlying48 rfl hsz ?_))
        go_ret
        refine ⟨ret_b ?_, HB.out.trans (hB2.mono HB.out.size)⟩
        have : l.all fewE = false := by
          rw [List.all_eq_false]
          exact ⟨l[k], List.getElem_mem hlt, by simp [h0']⟩
        simp [few, this]
    · have hall : l.all fewE = true := by rw [List.take_of_length_le (by omega)] at hd; exact List.all_eq_true.2 hd
      have Ha := Lib.hid hall
      have HB := Lib.hid hB
      clear hd hB hall
      by_cases hl : l.length ≤ 16
      · have d1 : decide ((l.length : Int) ≤ 16) = true := by simp only [decide_eq_true_eq]; omega
        have d2 : decide (l.length ≤ 16) = true := by simpa using hl
        go_wp2
        go_ret
        exact ⟨ret_b (by simp [few, Ha.out, hl]), HB.out⟩
      · have d1 : decide ((l.length : Int) ≤ 16) = false := by simp only [decide_eq_false_iff_not]; omega
        have d2 : decide (l.length ≤ 16) = false := by simpa using hl
        go_wp2
        go_ret
        exact ⟨ret_b (by simp [few, Ha.out, hl]), HB.out⟩
end Go.Proofs.Lw
end
section
set_option linter.unusedSimpArgs false
set_option linter.unusedVariables false
namespace Go.Proofs.Lw
open Go.RowKit Go.Sort Go.Proofs.YtehddihmndpgaaaGreatDoorW.PrintWords Go.Proofs.YtehddihmndpgaaaGreatDoor.PLib
/-- What is asked of sane. -/
def Sane (G : World → Prop) : Prop := ∀ w, G w → Calls Tryz.prog 7 #[] w fun e w' => e = .returned (.bool true) ∧ Below w.heap.size w w'
theorem few_len {l : List S48} (h : few l = true) : l.length ≤ 16 := by
  unfold few at h
  simp only [Bool.and_eq_true, decide_eq_true_eq] at h
  exact h.2
theorem join_err {a b : List S48} {z : Int} (h : Ldg.joinR st a b = .error z) : z ≠ 0 := by
  unfold Ldg.joinR at h
  split at h
  · cases h; decide
  · split at h
    · split at h
      · cases h
      · cases h; decide
    · cases h; decide
theorem bt {a b : World} {e : Ending} (he : e = .returned (.bool true)) (h : Below a.heap.size a b) : e = .returned (.bool true) ∧ Below a.heap.size a b := ⟨he, h⟩
set_option maxHeartbeats 8000000
end Go.Proofs.Lw
end
section
set_option linter.unusedSimpArgs false
set_option linter.unusedVariables false
namespace Go.Proofs.Lw
open Go.RowKit Go.Proofs.YtehddihmndpgaaaGreatDoorW.PrintWords Go.Proofs.YtehddihmndpgaaaGreatDoor.PLib
theorem app1 (a : Value) : (#[a] ++ #[] : Array Value) = #[a] := rfl
theorem app2 (a b : Value) : (#[a] ++ #[b] : Array Value) = #[a, b] := rfl
theorem kind_1 (x : S48) (cs : List Value) (w : World) (hk : k48.K w x cs) (hG : Glob w) (hs : Ldg.StOK (st x)) (h : x.f1 = 1) :
    Calls Tryz.prog 18 #[.agg cs.toArray] w fun e w' => e = .returned (.int .i64 (if clrE x = baseE x then fldR x else 370)) ∧ Below w.heap.size w w' := by
  have hl := k48_len hk
  have e1 : clrE x = e41 x := by unfold clrE; simp [h]
  rw [e1]
  refine core_known x cs w hk hG hs 41 42 (fun _ _ => #[]) (fun b0 b1 => by rw [h]; rfl) (e41 x) (c41 cs) (fun W hK => c41_K hK) (fldR x) (fun W r b0 b1 h0 h1 hr => ?_) (fun W hK hg => ?_) (enters_of Tryz.func41 (by kernel_rfl) rfl) (enters_of Tryz.func42 (by kernel_rfl) rfl) _ (fun q => if_pos q) (fun q => if_neg q)
  · show Calls Tryz.prog 41 (#[_] ++ #[]) W _
    rw [app1]
    exact clr41 W r cs hl hr
  · have e2 := catalogue_t x cs W hK
    unfold fldR
    simp only [h]
    exact e2
theorem kind_2 (x : S48) (cs : List Value) (w : World) (hk : k48.K w x cs) (hG : Glob w) (hs : Ldg.StOK (st x)) (h : x.f1 = 2) :
    Calls Tryz.prog 18 #[.agg cs.toArray] w fun e w' => e = .returned (.int .i64 (if clrE x = baseE x then fldR x else 370)) ∧ Below w.heap.size w w' := by
  have hl := k48_len hk
  have e1 : clrE x = e39 x := by unfold clrE; simp [h]
  rw [e1]
  refine core_known x cs w hk hG hs 39 45 (fun b0 _ => #[.pointer (some ⟨b0, 0, none⟩)]) (fun b0 b1 => by rw [h]; rfl) (e39 x) (c39 cs) (fun W hK => c39_K hK) (fldR x) (fun W r b0 b1 h0 h1 hr => ?_) (fun W hK hg => ?_) (enters_of Tryz.func39 (by kernel_rfl) rfl) (enters_of Tryz.func45 (by kernel_rfl) rfl) _ (fun q => if_pos q) (fun q => if_neg q)
  · show Calls Tryz.prog 39 (#[_] ++ #[_]) W _
    rw [app2]
    exact clr39 W r b0 cs hl hr h0
  · have e2 := graded_t x cs W hK
    unfold fldR
    simp only [h]
    exact e2
theorem kind_3 (x : S48) (cs : List Value) (w : World) (hk : k48.K w x cs) (hG : Glob w) (hs : Ldg.StOK (st x)) (h : x.f1 = 3) :
    Calls Tryz.prog 18 #[.agg cs.toArray] w fun e w' => e = .returned (.int .i64 (if clrE x = baseE x then fldR x else 370)) ∧ Below w.heap.size w w' := by
  have hl := k48_len hk
  have e1 : clrE x = e40 x := by unfold clrE; simp [h]
  rw [e1]
  refine core_known x cs w hk hG hs 40 46 (fun b0 _ => #[.pointer (some ⟨b0, 0, none⟩)]) (fun b0 b1 => by rw [h]; rfl) (e40 x) (c40 cs) (fun W hK => c40_K hK) (fldR x) (fun W r b0 b1 h0 h1 hr => ?_) (fun W hK hg => ?_) (enters_of Tryz.func40 (by kernel_rfl) rfl) (enters_of Tryz.func46 (by kernel_rfl) rfl) _ (fun q => if_pos q) (fun q => if_neg q)
  · show Calls Tryz.prog 40 (#[_] ++ #[_]) W _
    rw [app2]
    exact clr40 W r b0 cs hl hr h0
  · have e2 := marked_t x cs W hK
    unfold fldR
    simp only [h]
    exact e2
theorem kind_4 (x : S48) (cs : List Value) (w : World) (hk : k48.K w x cs) (hG : Glob w) (hs : Ldg.StOK (st x)) (h : x.f1 = 4) :
    Calls Tryz.prog 18 #[.agg cs.toArray] w fun e w' => e = .returned (.int .i64 (if clrE x = baseE x then fldR x else 370)) ∧ Below w.heap.size w w' := by
  have hl := k48_len hk
  have e1 : clrE x = e47 x := by unfold clrE; simp [h]
  rw [e1]
  refine core_known x cs w hk hG hs 47 48 (fun _ b1 => #[.pointer (some ⟨b1, 0, none⟩)]) (fun b0 b1 => by rw [h]; rfl) (e47 x) (c47 cs) (fun W hK => c47_K hK) (fldR x) (fun W r b0 b1 h0 h1 hr => ?_) (fun W hK hg => ?_) (enters_of Tryz.func47 (by kernel_rfl) rfl) (enters_of Tryz.func48 (by kernel_rfl) rfl) _ (fun q => if_pos q) (fun q => if_neg q)
  · show Calls Tryz.prog 47 (#[_] ++ #[_]) W _
    rw [app2]
    exact clr47 W r b0 b1 cs hl hr h0 h1
  · have e2 := petitioned_t x cs W hK
    unfold fldR
    simp only [h]
    exact e2
theorem kind_5 (x : S48) (cs : List Value) (w : World) (hk : k48.K w x cs) (hG : Glob w) (hs : Ldg.StOK (st x)) (h : x.f1 = 5) :
    Calls Tryz.prog 18 #[.agg cs.toArray] w fun e w' => e = .returned (.int .i64 (if clrE x = baseE x then fldR x else 370)) ∧ Below w.heap.size w w' := by
  have hl := k48_len hk
  have e1 : clrE x = e40 x := by unfold clrE; simp [h]
  rw [e1]
  refine core_known x cs w hk hG hs 40 46 (fun b0 _ => #[.pointer (some ⟨b0, 0, none⟩)]) (fun b0 b1 => by rw [h]; rfl) (e40 x) (c40 cs) (fun W hK => c40_K hK) (fldR x) (fun W r b0 b1 h0 h1 hr => ?_) (fun W hK hg => ?_) (enters_of Tryz.func40 (by kernel_rfl) rfl) (enters_of Tryz.func46 (by kernel_rfl) rfl) _ (fun q => if_pos q) (fun q => if_neg q)
  · show Calls Tryz.prog 40 (#[_] ++ #[_]) W _
    rw [app2]
    exact clr40 W r b0 cs hl hr h0
  · have e2 := marked_t x cs W hK
    unfold fldR
    simp only [h]
    exact e2
theorem kind_6 (x : S48) (cs : List Value) (w : World) (hk : k48.K w x cs) (hG : Glob w) (hs : Ldg.StOK (st x)) (h : x.f1 = 6) :
    Calls Tryz.prog 18 #[.agg cs.toArray] w fun e w' => e = .returned (.int .i64 (if clrE x = baseE x then fldR x else 370)) ∧ Below w.heap.size w w' := by
  have hl := k48_len hk
  have e1 : clrE x = e49 x := by unfold clrE; simp [h]
  rw [e1]
  refine core_known x cs w hk hG hs 49 50 (fun _ _ => #[]) (fun b0 b1 => by rw [h]; rfl) (e49 x) (c49 cs) (fun W hK => c49_K hK) (fldR x) (fun W r b0 b1 h0 h1 hr => ?_) (fun W hK hg => ?_) (enters_of Tryz.func49 (by kernel_rfl) rfl) (enters_of Tryz.func50 (by kernel_rfl) rfl) _ (fun q => if_pos q) (fun q => if_neg q)
  · show Calls Tryz.prog 49 (#[_] ++ #[]) W _
    rw [app1]
    exact clr49 W r cs hl hr
  · have e2 := section_t x cs W hK hg
    unfold fldR
    simp only [h]
    exact e2
theorem kind_7 (x : S48) (cs : List Value) (w : World) (hk : k48.K w x cs) (hG : Glob w) (hs : Ldg.StOK (st x)) (h : x.f1 = 7) :
    Calls Tryz.prog 18 #[.agg cs.toArray] w fun e w' => e = .returned (.int .i64 (if clrE x = baseE x then fldR x else 370)) ∧ Below w.heap.size w w' := by
  have hl := k48_len hk
  have e1 : clrE x = e52 x := by unfold clrE; simp [h]
  rw [e1]
  refine core_known x cs w hk hG hs 52 53 (fun _ _ => #[]) (fun b0 b1 => by rw [h]; rfl) (e52 x) (c52 cs) (fun W hK => c52_K hK) (fldR x) (fun W r b0 b1 h0 h1 hr => ?_) (fun W hK hg => ?_) (enters_of Tryz.func52 (by kernel_rfl) rfl) (enters_of Tryz.func53 (by kernel_rfl) rfl) _ (fun q => if_pos q) (fun q => if_neg q)
  · show Calls Tryz.prog 52 (#[_] ++ #[]) W _
    rw [app1]
    exact clr52 W r cs hl hr
  · have e2 := request_t x cs W hK hg
    unfold fldR
    simp only [h]
    exact e2
theorem kind_8 (x : S48) (cs : List Value) (w : World) (hk : k48.K w x cs) (hG : Glob w) (hs : Ldg.StOK (st x)) (h : x.f1 = 8) :
    Calls Tryz.prog 18 #[.agg cs.toArray] w fun e w' => e = .returned (.int .i64 (if clrE x = baseE x then fldR x else 370)) ∧ Below w.heap.size w w' := by
  have hl := k48_len hk
  have e1 : clrE x = e39 x := by unfold clrE; simp [h]
  rw [e1]
  refine core_known x cs w hk hG hs 39 55 (fun b0 _ => #[.pointer (some ⟨b0, 0, none⟩)]) (fun b0 b1 => by rw [h]; rfl) (e39 x) (c39 cs) (fun W hK => c39_K hK) (fldR x) (fun W r b0 b1 h0 h1 hr => ?_) (fun W hK hg => ?_) (enters_of Tryz.func39 (by kernel_rfl) rfl) (enters_of Tryz.func55 (by kernel_rfl) rfl) _ (fun q => if_pos q) (fun q => if_neg q)
  · show Calls Tryz.prog 39 (#[_] ++ #[_]) W _
    rw [app2]
    exact clr39 W r b0 cs hl hr h0
  · have e2 := asked_t x cs W hK
    unfold fldR
    simp only [h]
    exact e2
theorem kind_9 (x : S48) (cs : List Value) (w : World) (hk : k48.K w x cs) (hG : Glob w) (hs : Ldg.StOK (st x)) (h : x.f1 = 9) :
    Calls Tryz.prog 18 #[.agg cs.toArray] w fun e w' => e = .returned (.int .i64 (if clrE x = baseE x then fldR x else 370)) ∧ Below w.heap.size w w' := by
  have hl := k48_len hk
  have e1 : clrE x = e56 x := by unfold clrE; simp [h]
  rw [e1]
  refine core_known x cs w hk hG hs 56 57 (fun _ _ => #[]) (fun b0 b1 => by rw [h]; rfl) (e56 x) (c56 cs) (fun W hK => c56_K hK) (fldR x) (fun W r b0 b1 h0 h1 hr => ?_) (fun W hK hg => ?_) (enters_of Tryz.func56 (by kernel_rfl) rfl) (enters_of Tryz.func57 (by kernel_rfl) rfl) _ (fun q => if_pos q) (fun q => if_neg q)
  · show Calls Tryz.prog 56 (#[_] ++ #[]) W _
    rw [app1]
    exact clr56 W r cs hl hr
  · have e2 := ticked_t x cs W hK
    unfold fldR
    simp only [h]
    exact e2
theorem chk_all : Chk Glob chkE := by
  refine ⟨fun w w' h hb => h.below hb, fun x cs w hk hG => ?_, fun x h => ?_⟩
  · unfold chkE
    by_cases hs : Ldg.StOK (st x)
    · rw [if_pos hs]
      by_cases hn : 1 ≤ x.f1 ∧ x.f1 ≤ 9
      · rw [if_pos hn]
        have : x.f1 = 1 ∨ x.f1 = 2 ∨ x.f1 = 3 ∨ x.f1 = 4 ∨ x.f1 = 5 ∨ x.f1 = 6 ∨ x.f1 = 7 ∨ x.f1 = 8 ∨ x.f1 = 9 := by omega
        rcases this with h | h | h | h | h | h | h | h | h
        · exact kind_1 x cs w hk hG hs h
        · exact kind_2 x cs w hk hG hs h
        · exact kind_3 x cs w hk hG hs h
        · exact kind_4 x cs w hk hG hs h
        · exact kind_5 x cs w hk hG hs h
        · exact kind_6 x cs w hk hG hs h
        · exact kind_7 x cs w hk hG hs h
        · exact kind_8 x cs w hk hG hs h
        · exact kind_9 x cs w hk hG hs h
      · rw [if_neg hn]
        refine core_none x cs w hk hG hs fun b0 b1 => ?_
        unfold kindOf
        rw [if_neg (by omega), if_neg (by omega), if_neg (by omega), if_neg (by omega), if_neg (by omega), if_neg (by omega), if_neg (by omega), if_neg (by omega), if_neg (by omega)]
    · rw [if_neg hs]
      exact core_stamp x cs w hk hs
  · unfold chkE at h
    by_cases hs : Ldg.StOK (st x)
    · exact hs
    · rw [if_neg hs] at h
      exact absurd h (by decide)
end Go.Proofs.Lw
end
section
set_option linter.unusedSimpArgs false
set_option linter.unusedVariables false
namespace Go.Proofs.Lw
open Go.RowKit Go.Sort Go.Proofs.YtehddihmndpgaaaGreatDoorW.PrintWords Go.Proofs.YtehddihmndpgaaaGreatDoor.PLib
theorem known_any (s0 s1 s2 : Int) (w : World) (h : Ldg.StOK ⟨s0, s1, s2⟩) : Calls Tryz.prog 15 #[.agg #[.int .i64 s0, .int .i64 s1, .int .i64 s2]] w fun e w' => e = .returned (.tuple #[.int .i64 (8 * s0 + s1), .int .i64 0]) ∧ Below w.heap.size w w' := by
  refine stamps_Known.calls s0 s1 s2 _ _ w ?_
  unfold stamps_Known.f
  have h1 := scheck_f ⟨s0, s1, s2⟩
  rw [if_pos h] at h1
  rw [h1]
  simp only [Option.bind_some, if_true]
  obtain ⟨a, b, c, d, _⟩ := h
  dsimp only at a b c d
  have e1 : wrap64 (8 * s0) = 8 * s0 := by unfold wrap64; omega
  have e2 : wrap64 (8 * s0 + s1) = 8 * s0 + s1 := by unfold wrap64; omega
  rw [e1, e2]
structure Own (w : World) (acc : List EC) (v : Value) (W : World) : Prop where
  own : W.ownsRow w.heap.size 48 31 v acc.length (acc.map (·.2)).flatten
  below : Below w.heap.size w W
  ks : ∀ x ∈ acc, k48.K w x.1 x.2
theorem own_row {w W : World} {acc : List EC} {v : Value} (h : Own w acc v W) : ∃ AX cX, v = .slice AX acc.length cX ∧ acc.length ≤ cX ∧ Kd.C k48 W AX acc.length (acc.map (·.1)) := by
  obtain ⟨hl, hv⟩ := h.own
  have hks := h.ks
  have hl31 : ∀ z ∈ acc, z.2.length = 31 := fun z hz => k48_len (hks z hz)
  rcases hv with ⟨rfl, h0⟩ | ⟨g, cap, cur, rfl, _, hh, h1, h2, h3, h4⟩
  · rw [h0]
    obtain rfl := List.length_eq_zero_iff.1 h0
    exact ⟨none, 0, rfl, by simp, by simp, by simp, fun h => by simp at h⟩
  · refine ⟨_, _, rfl, h1, by simp, by have : maxLen = 9223372036854775807 := rfl; omega, fun _ => ⟨_, rfl, ?_⟩⟩
    intro j q hq
    rw [List.getElem?_map] at hq
    obtain ⟨z, hz, rfl⟩ := Option.map_eq_some_iff.1 hq
    obtain ⟨hj, rfl⟩ := List.getElem?_eq_some_iff.1 hz
    have hmem := List.getElem_mem hj
    refine ⟨acc[j].2, hl31 _ hmem, k48.K_below h.below (hks _ hmem), ?_⟩
    intro i u hu
    have hi : i < 31 := by have := (List.getElem?_eq_some_iff.1 hu).1; rw [hl31 _ hmem] at this; exact this
    have e : ((⟨g, 0, none⟩ : Addr).add (j * k48.sz + i)) = ⟨g, j * 31 + i, none⟩ := by
      show (⟨g, 0, none⟩ : Addr).add (j * 31 + i) = _
      unfold Addr.add; by_cases h : j * 31 + i = 0
      · rw [if_pos h, h]
      · rw [if_neg h]; simp
    rw [e, cell_of_row _ _ _ _ _ _ hh]
    have h5 : cur[j * 31 + i]? = (cur.toList.take (acc.length * 31))[j * 31 + i]? := by
      rw [List.getElem?_take, if_pos (by omega)]; simp
    rw [h5, h4, flat_get hl31 j hj i hi]
    exact hu
theorem Own.below_ {w W X : World} {acc : List EC} {v : Value} (h : Own w acc v W) (hb : Below W.heap.size W X) : Own w acc v X :=
  ⟨own_move h.own fun k hk => by obtain ⟨c, _, hc⟩ := own_at h.own k hk; exact hb.block k (Array.getElem?_eq_some_iff.1 hc).1, h.below.trans (hb.mono h.below.size), h.ks⟩
theorem ok_of {G : World → Prop} {chk : S48 → Int} (hC : Chk G chk) {l : List S48} (h : Ldg.checkR st chk l = 0) : ∀ x ∈ l, Ldg.StOK (st x) := by
  have h2 : Ldg.chkL chk l = 0 := by
    unfold Ldg.checkR at h
    by_cases hb : 65536 < l.length
    · rw [if_pos hb] at h; cases h
    · rw [if_neg hb] at h
      by_cases hc : Ldg.chkL chk l = 0
      · exact hc
      · rw [if_pos hc] at h; exact absurd h hc
  clear h
  intro x hx
  refine hC.st x ?_
  induction l with
  | nil => simp at hx
  | cons n r ih =>
    simp only [Ldg.chkL] at h2
    by_cases h0 : chk n = 0
    · rw [if_neg (by simpa using h0)] at h2
      rcases List.mem_cons.1 hx with rfl | hx
      · exact h0
      · exact ih h2 hx
    · rw [if_pos h0] at h2; exact absurd h2 h0
theorem own_done {w W3 w4 : World} {acc : List EC} {x : EC} {v v' : Value} (h : Own w acc v W3) (hK : k48.K w x.1 x.2) (hown' : w4.ownsRow w.heap.size 48 31 v' (acc.length + 1) ((acc.map (·.2)).flatten ++ x.2)) (hg : (W3.alloc (.cells x.2.toArray 48)).grownBy w4 v.ownBlock) :
    Own w (acc ++ [x]) v' w4 := by
  have hs := h.below.size
  refine ⟨by simpa using hown', (h.below.alloc hs _).grown hg (by simp; omega) (fun k e => by obtain ⟨_, h5, _⟩ := own_at h.own _ e; omega), ?_⟩
  intro y hy
  rcases List.mem_append.1 hy with hy | hy
  · exact h.ks y hy
  · obtain rfl := List.mem_singleton.1 hy
    exact hK
def UptoPost (w : World) (z : Int) (r : List S48) (e : Ending) (w' : World) : Prop := Below w.heap.size w w' ∧
  (if z ≠ 0 then e = .returned (.tuple #[.slice none 0 0, .int .i64 z]) else ∃ A c, e = .returned (.tuple #[.slice A r.length c, .int .i64 0]) ∧ r.length ≤ c ∧ Kd.C k48 w' A r.length r)
set_option maxHeartbeats 8000000
set_option maxRecDepth 100000 in
theorem upto_any {G : World → Prop} {chk : S48 → Int} (hC : Chk G chk) (A : Option Addr) (c : Nat) (l : List S48) (known : Int) (w : World) (h : Kd.C k48 w A l.length l) (hGw : G w) :
    Calls Tryz.prog 14 #[.slice A l.length c, .int .i64 known] w (UptoPost w (Ldg.checkR st chk l) (Ldg.uptoR st l known)) := by
  have cA := check_any hC A c l w h hGw
  obtain ⟨za, hza⟩ : ∃ za, Ldg.checkR st chk l = za := ⟨_, rfl⟩
  rw [hza] at cA ⊢
  go_enter Tryz.func14, Tryz.ntmps14
  by_cases ea : za = 0
  · subst ea
    have hlen := len_of hza
    obtain ⟨i0, z0', hi, hz0, hz1, hz2, hz3⟩ := i48
    go_wp2_with (go_at_call 9; refine cA.mono ?_; rintro e W2 ⟨rfl, hB2⟩)
    go_loopw [17, 4] (fun i v wr => ∃ (k : Nat) (acc : List EC) (u : Value), k ≤ l.length ∧ i = .int .i64 k ∧ acc.map (·.1) = Ldg.uptoR st (l.take k) known ∧ acc.length ≤ k ∧ u = v ∧ Own w acc u wr)
      (fun i _ _ => l.length - (intOf i).toNat)
    case atStart => exact ⟨0, [], _, Nat.zero_le _, rfl, by simp [Ldg.uptoR], Nat.le_refl _, rfl, ⟨⟨by simp, .inl ⟨rfl, rfl⟩⟩, hB2, by simp⟩⟩
    case round =>
      obtain ⟨k, acc, v, hk, rfl, hd, hal, rfl, hO⟩ := hrel
      by_cases hlt : k < l.length
      · obtain ⟨ad, cs, rfl, hK, hcell⟩ := ent_at h k hlt
        have hcw : ∀ j u, cs[j]? = some u → wr.cell? ((ad.add (k * 31)).add j) = some u := fun j u hu => pw_cell_below hO.below (hcell j u hu)
        have hcl := k48_len hK
        have hsz : (Tryz.prog.info? 48).map (·.size) = some cs.length := by rw [hcl]; exact info48
        have hone := k48_one hK
        have hok := ok_of hC hza l[k] (List.getElem_mem hlt)
        obtain ⟨x, hx⟩ : ∃ x, l[k] = x := ⟨_, rfl⟩
        rw [hx] at hK hok
        obtain ⟨g0, g1, g2⟩ := k48_head hK
        obtain ⟨_, g0⟩ := List.getElem?_eq_some_iff.1 g0
        obtain ⟨_, g1⟩ := List.getElem?_eq_some_iff.1 g1
        obtain ⟨_, g2⟩ := List.getElem?_eq_some_iff.1 g2
        have cK := known_any x.f0.f0 x.f0.f1 x.f0.f2 (wr.alloc (.cells cs.toArray 48)) hok
        obtain ⟨kn, hkn⟩ : ∃ kn, 8 * x.f0.f0 + x.f0.f1 = kn := ⟨_, rfl⟩
        rw [hkn] at cK
        have hO1 := hO.below_ ((Below.refl wr.heap.size wr).alloc (Nat.le_refl _) (.cells cs.toArray 48))
        have hstep : Ldg.uptoR st (l.take (k + 1)) known = Ldg.uptoR st (l.take k) known ++ (if kn ≤ known then [x] else []) := by
          unfold Ldg.uptoR
          rw [List.take_add_one, List.getElem?_eq_getElem hlt, List.filter_append, hx]
          have e : Ldg.kn st x = kn := hkn
          by_cases hle : kn ≤ known <;> simp [hle, e]
        have HO1 := Lib.hid hO1
        have Hstep := Lib.hid hstep
        have Hd := Lib.hid hd
        have HK := Lib.hid hK
        clear hO hO1 hstep hd hok hx hkn hcell
        by_cases hle : kn ≤ known
        · have d1 : decide (kn ≤ known) = true := by simpa using hle
          go_wp2_with (first
          | (refine wpList_append_own _ rfl (.tmp 34) (.tmp 36) 22 rfl w.heap.size 48 i0 z0' 31 320 Tryz.underlying22 hi hz0 hz1 hz2 hz3 (by decide) v acc.length (acc.map (·.2)).flatten rfl (((HO1.out.below_ hB3).own).alloc _) ⟨W3.heap.size, 0, none⟩ 1 1 cs rfl (by omega) (row_new W3 cs 48) (fun u hu => by simpa using Array.all_eq_true_iff_forall_mem.1 hone u (by simpa using hu)) (by have : maxLen = 9223372036854775807 := rfl; omega) (by omega) (by have := (HO1.out.below_ hB3).below.size; simp; omega) ?_; intro v' w4 hown' hg4 hnil4)
          | (refine wpList_build1 rfl 22 48 _ rfl cs rfl i0 z0' Tryz.underlying22 hi hz0 (by rw [hz1, hcl]) (by omega) (by omega) (by rw [hz3, hcl]) ?_)
          | (go_at_call 15; refine cK.mono ?_; rintro e W3 ⟨rfl, hB3⟩)
          | (refine wpList_load_at rfl 48 _ rfl ⟨wr.heap.size, 0, none⟩ rfl cs _ (fun j u hu => pw_cell_below hB3 (row_at (heap_alloc_new wr (Obj.cells cs.toArray 48)) j u hu)) Tryz.underlying48 rfl hsz ?_)
          | (refine wpList_load_at rfl 48 _ rfl (ad.add (k * 31)) rfl cs _ hcw Tryz.underlying48 rfl hsz ?_)
          | (refine wpList_store_new rfl 48 _ _ rfl cs.toArray _ _ rfl rfl (by simpa using hsz) (by simp [hcl]) hone ?_))
          have hO3 := HO1.out.below_ hB3
          go_roundw
          case rel => exact ⟨k + 1, acc ++ [(x, cs)], _, by omega, by go_num, by rw [Hstep.out, if_pos (by omega), ← Hd.out]; simp, by simp; omega, rfl, own_done hO3 (x := (x, cs)) HK.out hown' hg4⟩
          case measure => simp [intOf]; omega
        · have d1 : decide (kn ≤ known) = false := by simpa using hle
          go_wp2_with (first
          | (go_at_call 15; refine cK.mono ?_; rintro e W3 ⟨rfl, hB3⟩)
          | (refine wpList_load_at rfl 48 _ rfl ⟨wr.heap.size, 0, none⟩ rfl cs _ (fun j u hu => pw_cell_below hB3 (row_at (heap_alloc_new wr (Obj.cells cs.toArray 48)) j u hu)) Tryz.underlying48 rfl hsz ?_)
          | (refine wpList_load_at rfl 48 _ rfl (ad.add (k * 31)) rfl cs _ hcw Tryz.underlying48 rfl hsz ?_)
          | (refine wpList_store_new rfl 48 _ _ rfl cs.toArray _ _ rfl rfl (by simpa using hsz) (by simp [hcl]) hone ?_))
          have hO3 := HO1.out.below_ hB3
          go_roundw
          case rel => exact ⟨k + 1, acc, _, by omega, by go_num, by rw [Hstep.out, if_neg (by omega), ← Hd.out]; simp, by omega, rfl, hO3⟩
          case measure => simp [intOf]; omega
      · have hd' : acc.map (·.1) = Ldg.uptoR st l known := by rw [hd, List.take_of_length_le (by omega)]
        obtain ⟨AX, cX, hv, hlc, hCX⟩ := own_row hO
        rw [hv]
        have HO := Lib.hid hO
        have Hd := Lib.hid hd'
        have hlr : (Ldg.uptoR st l known).length = acc.length := by rw [← hd', List.length_map]
        have Hlr := Lib.hid hlr
        clear hO hd hd' hlr hv
        go_wp2
        refine bodyPost_ret (v := .tuple #[.slice AX acc.length cX, .int .i64 0]) (by simp [results, Tryz.results14, go_sem]) rfl ⟨HO.out.below, ?_⟩
        rw [if_neg (by simp)]
        refine ⟨AX, cX, by rw [Hlr.out], by rw [Hlr.out]; exact hlc, ?_⟩
        rw [Hlr.out, ← Hd.out]
        exact hCX
  · have d1 : (za == 0) = false := by simpa using ea
    have d2 : (za != 0) = true := by simpa using ea
    go_wp2_with (go_at_call 9; refine cA.mono ?_; rintro e W2 ⟨rfl, hB2⟩)
    refine bodyPost_ret (v := .tuple #[.slice none 0 0, .int .i64 za]) (by simp [results, Tryz.results14, go_sem]) rfl ⟨hB2, ?_⟩
    rw [if_pos ea]
end Go.Proofs.Lw
end
section
set_option linter.unusedSimpArgs false
set_option linter.unusedVariables false
namespace Go.Proofs.Lw
open Go.RowKit Go.Proofs.YtehddihmndpgaaaGreatDoorW.PrintWords Go.Proofs.YtehddihmndpgaaaGreatDoor.PLib
open Ldg
theorem chk_tick (a b c : Int) (h : Ldg.StOK ⟨a, b, c⟩) : chkE (tickE a b c) = 0 := by
  unfold chkE
  have h1 : st (tickE a b c) = ⟨a, b, c⟩ := rfl
  have h2 : clrE (tickE a b c) = baseE (tickE a b c) := by unfold clrE; simp [tickE, e56, baseE]
  have h3 : fldR (tickE a b c) = 0 := by unfold fldR; simp [tickE]; decide
  rw [h1, if_pos h, if_pos (by simp [tickE]), if_pos h2, h3]
theorem chk_zero : chkE zeroE = 80 := by
  unfold chkE
  rw [if_neg]
  simp [st, zeroE, Ldg.StOK]
theorem ct0 : chkE (tickE 2 0 1) = 0 := chk_tick _ _ _ (by unfold Ldg.StOK; decide)
theorem ct1 : chkE (tickE 2 1 1) = 0 := chk_tick _ _ _ (by unfold Ldg.StOK; decide)
theorem ct2 : chkE (tickE 5 0 2) = 0 := chk_tick _ _ _ (by unfold Ldg.StOK; decide)
theorem ctn : chkE (tickE 2 0 9) = 0 := chk_tick _ _ _ (by unfold Ldg.StOK; decide)
theorem stt (a b c : Int) : st (tickE a b c) = ⟨a, b, c⟩ := rfl
theorem hstE : ∀ e, chkE e = 0 → Ldg.StOK (st e) := chk_all.st
theorem led3 : Led st chkE [tickE 2 0 1, tickE 2 1 1, tickE 5 0 2] := by
  refine ⟨by decide, fun e he => ?_, ?_⟩
  · simp only [List.mem_cons, List.not_mem_nil, or_false] at he
    rcases he with rfl | rfl | rfl
    · exact ct0
    · exact ct1
    · exact ct2
  · unfold Fit
    simp only [List.pairwise_cons, List.mem_cons, List.not_mem_nil, or_false, stt]
    simp [stt, Fits, ltS]
theorem led01 : Led st chkE [tickE 2 0 1, tickE 2 1 1] := led_sub hstE led3 (by simp [List.sublist_cons_iff])
theorem led12 : Led st chkE [tickE 2 1 1, tickE 5 0 2] := led_sub hstE led3 (by simp)
theorem led0 : Led st chkE [] := led_sub hstE led3 (by simp)
theorem sput1 : putR st chkE [tickE 2 0 1, tickE 2 1 1] (tickE 5 0 2) = .ok [tickE 2 0 1, tickE 2 1 1, tickE 5 0 2] :=
  (putR_ok hstE).2 ⟨led01, ct2, led3, fun e => by simp [or_assoc]⟩
theorem sput2 : putR st chkE [tickE 2 1 1, tickE 5 0 2] (tickE 2 0 1) = .ok [tickE 2 0 1, tickE 2 1 1, tickE 5 0 2] :=
  (putR_ok hstE).2 ⟨led12, ct0, led3, fun e => by simp only [List.mem_cons, List.not_mem_nil, or_false]; grind⟩
theorem smrg : mergeR st chkE [tickE 2 0 1, tickE 2 1 1, tickE 5 0 2] [tickE 2 1 1, tickE 5 0 2] = .ok [tickE 2 0 1, tickE 2 1 1, tickE 5 0 2] :=
  (mergeR_ok hstE).2 ⟨led3, led12, led3, fun e => by simp only [List.mem_cons, List.not_mem_nil, or_false]; grind⟩
theorem sputz : putR st chkE [] zeroE = .error 80 := by
  unfold putR
  rw [if_neg (by simpa using (checkR_zero hstE).2 led0), if_pos (by rw [chk_zero]; decide), chk_zero]
theorem smrg0 : mergeR st chkE [] [] = .ok [] := (mergeR_ok hstE).2 ⟨led0, led0, led0, fun e => by simp⟩
theorem nofit {x : List S48} (L : Led st chkE x) {a b : S48} (ha : a ∈ x) (hb : b ∈ x) (hne : a ≠ b) : Fits (st a) (st b) ∨ Fits (st b) (st a) := by
  have h := L.fit
  clear L
  unfold Fit at h
  induction x with
  | nil => simp at ha
  | cons c x ih =>
    obtain ⟨h1, h2⟩ := List.pairwise_cons.1 h
    rcases List.mem_cons.1 ha with e1 | ha
    · rcases List.mem_cons.1 hb with e2 | hb
      · exact absurd (e1.trans e2.symm) hne
      · rw [e1]; exact .inl (h1 _ hb)
    · rcases List.mem_cons.1 hb with e2 | hb
      · rw [e2]; exact .inr (h1 _ ha)
      · exact ih ha hb h2
theorem sputn : putR st chkE [tickE 2 0 1, tickE 2 1 1, tickE 5 0 2] (tickE 2 0 9) = .error 390 := by
  cases h : putR st chkE [tickE 2 0 1, tickE 2 1 1, tickE 5 0 2] (tickE 2 0 9) with
  | error c => rw [putR_err hstE led3 ctn (by decide) h]
  | ok x =>
    exfalso
    obtain ⟨_, _, L, hm⟩ := (putR_ok hstE).1 h
    have := nofit L ((hm (tickE 2 0 1)).2 (.inl (by simp))) ((hm (tickE 2 0 9)).2 (.inr rfl)) (by intro h; simp [tickE] at h)
    rw [stt, stt] at this
    unfold Fits ltS at this
    revert this
    decide
theorem scheck3 : checkR st chkE [tickE 2 0 1, tickE 2 1 1, tickE 5 0 2] = 0 := (checkR_zero hstE).2 led3
theorem scheck0 : checkR st chkE [] = 0 := (checkR_zero hstE).2 led0
theorem scheck20 : checkR st chkE [tickE 5 0 2, tickE 2 0 1] = 390 := by
  unfold checkR
  have h1 : chkL chkE [tickE 5 0 2, tickE 2 0 1] = 0 := chkL_zero.2 fun e he => by
    simp only [List.mem_cons, List.not_mem_nil, or_false] at he
    rcases he with rfl | rfl
    · exact ct2
    · exact ct0
  have h2 : ¬ fitE st [tickE 5 0 2, tickE 2 0 1] = true := by decide
  rw [if_neg (by decide), if_neg (by simpa using h1), if_neg h2]
theorem supto : uptoR st [tickE 2 0 1, tickE 2 1 1, tickE 5 0 2] 16 = [tickE 2 0 1] := rfl
theorem slast : lastR st [tickE 2 0 1, tickE 2 1 1, tickE 5 0 2] 0 = ⟨5, 0, 2⟩ := rfl
theorem slast0 : lastR st [] (-1) = ⟨0, -1, 0⟩ := rfl
end Go.Proofs.Lw
end
section
set_option linter.unusedSimpArgs false
set_option linter.unusedVariables false
namespace Go.Proofs.Lw
open Go.RowKit Go.Sort Go.Proofs.YtehddihmndpgaaaGreatDoorW.PrintWords Go.Proofs.YtehddihmndpgaaaGreatDoor.PLib
/-- What the loop of LedgerMerged holds: the entries put so far, or the error. -/
def MLoop (chk : S48 → Int) (r : Except Int (List S48)) (t : List S48) (z g : Value) (wr : World) : Prop :=
  (∃ Z zl cz, g = .int .i64 0 ∧ z = .slice Z zl.length cz ∧ zl.length ≤ cz ∧ Kd.C k48 wr Z zl.length zl ∧ Ldg.puts st chk zl t = r) ∨ (g = .int .i64 390 ∧ z = .slice none 0 0 ∧ r = .error 390)
theorem tr2 {a b c : World} (h : Below a.heap.size a b) (k : Below b.heap.size b c) : Below a.heap.size a c := h.trans (k.mono h.size)
theorem nil_C (W : World) : Kd.C k48 W none ([] : List S48).length [] := ⟨rfl, by simp, fun h => by simp at h⟩
theorem same_yes (A B : Option Addr) (c d : Nat) (l : List S48) (w : World) (ha : Kd.C k48 w A l.length l) (hb : Kd.C k48 w B l.length l) :
    Calls Tryz.prog 12 #[.slice A l.length c, .slice B l.length d] w fun r w' => r = .returned (.bool true) ∧ Below w.heap.size w w' := by
  have := refsame_any A B c d l l w ha hb
  rwa [decide_eq_true (rfl : l = l)] at this
set_option maxHeartbeats 8000000
set_option maxRecDepth 100000 in
theorem mg_any {G : World → Prop} {chk : S48 → Int} (hC : Chk G chk) (hS : Sane G) (A B : Option Addr) (ca cb : Nat) (la lb : List S48) (w : World) (ha : Kd.C k48 w A la.length la) (hca : la.length ≤ ca) (hb : Kd.C k48 w B lb.length lb) (hcb : lb.length ≤ cb) (hGw : G w) :
    Calls Tryz.prog 3 #[.slice A la.length ca, .slice B lb.length cb] w fun e w' => e = .returned (.bool true) ∧ Below w.heap.size w w' := by
  have cS := hS w hGw
  have cA := fun W (h : Below w.heap.size w W) => few_any A ca la W (Kd.C_below ha h)
  have cB := fun W (h : Below w.heap.size w W) => few_any B cb lb W (Kd.C_below hb h)
  have dA := fun W (h : Below w.heap.size w W) => check_any hC A ca la W (Kd.C_below ha h) (hC.keep _ _ hGw h)
  have dB := fun W (h : Below w.heap.size w W) => check_any hC B cb lb W (Kd.C_below hb h) (hC.keep _ _ hGw h)
  obtain ⟨fa, hfa⟩ : ∃ b, few la = b := ⟨_, rfl⟩
  obtain ⟨fb, hfb⟩ : ∃ b, few lb = b := ⟨_, rfl⟩
  obtain ⟨za, hza⟩ : ∃ b, Ldg.checkR st chk la = b := ⟨_, rfl⟩
  obtain ⟨zb, hzb⟩ : ∃ b, Ldg.checkR st chk lb = b := ⟨_, rfl⟩
  rw [hfa] at cA
  rw [hfb] at cB
  rw [hza] at dA
  rw [hzb] at dB
  have Hfa := Lib.hid hfa
  have Hfb := Lib.hid hfb
  have Hza := Lib.hid hza
  have Hzb := Lib.hid hzb
  clear hfa hfb hza hzb
  go_enter Tryz.func3, Tryz.ntmps3
  cases fa
  · go_wp2_with (first
      | (go_at_call 8; refine (cA _ hB1).mono ?_; rintro e W2 ⟨rfl, h2⟩; have hB2 := tr2 hB1 h2)
      | (go_at_call 7; refine cS.mono ?_; rintro e W1 ⟨rfl, hB1⟩))
    go_ret
    exact ⟨rfl, hB2⟩
  cases fb
  · go_wp2_with (first
      | (go_at_call 8; refine (cB _ hB2).mono ?_; rintro e W3 ⟨rfl, h3⟩; have hB3 := tr2 hB2 h3)
      | (go_at_call 8; refine (cA _ hB1).mono ?_; rintro e W2 ⟨rfl, h2⟩; have hB2 := tr2 hB1 h2)
      | (go_at_call 7; refine cS.mono ?_; rintro e W1 ⟨rfl, hB1⟩))
    go_ret
    exact ⟨rfl, hB3⟩
  by_cases ea : za = 0
  rotate_left
  · have n1 : (za != 0) = true := by simpa using ea
    have n2 : (za == 0) = false := by simpa using ea
    go_wp2_with (first
      | (go_at_call 9; refine (dA _ hB3).mono ?_; rintro e W4 ⟨rfl, h4⟩; have hB4 := tr2 hB3 h4)
      | (go_at_call 8; refine (cB _ hB2).mono ?_; rintro e W3 ⟨rfl, h3⟩; have hB3 := tr2 hB2 h3)
      | (go_at_call 8; refine (cA _ hB1).mono ?_; rintro e W2 ⟨rfl, h2⟩; have hB2 := tr2 hB1 h2)
      | (go_at_call 7; refine cS.mono ?_; rintro e W1 ⟨rfl, hB1⟩))
    go_ret
    exact ⟨rfl, hB4⟩
  subst ea
  by_cases eb : zb = 0
  rotate_left
  · have n1 : (zb != 0) = true := by simpa using eb
    have n2 : (zb == 0) = false := by simpa using eb
    go_wp2_with (first
      | (go_at_call 9; refine (dB _ hB4).mono ?_; rintro e W5 ⟨rfl, h5⟩; have hB5 := tr2 hB4 h5)
      | (go_at_call 9; refine (dA _ hB3).mono ?_; rintro e W4 ⟨rfl, h4⟩; have hB4 := tr2 hB3 h4)
      | (go_at_call 8; refine (cB _ hB2).mono ?_; rintro e W3 ⟨rfl, h3⟩; have hB3 := tr2 hB2 h3)
      | (go_at_call 8; refine (cA _ hB1).mono ?_; rintro e W2 ⟨rfl, h2⟩; have hB2 := tr2 hB1 h2)
      | (go_at_call 7; refine cS.mono ?_; rintro e W1 ⟨rfl, hB1⟩))
    go_ret
    exact ⟨rfl, hB5⟩
  subst eb
  have La := (Ldg.checkR_zero (st := st) (chk := chk) hC.st).1 Hza.out
  have Lb := (Ldg.checkR_zero (st := st) (chk := chk) hC.st).1 Hzb.out
  have hla : la.length ≤ 16 := few_len Hfa.out
  have hlb : lb.length ≤ 16 := few_len Hfb.out
  obtain ⟨q1, q2, q3, q4⟩ := Ldg.law_merged (st := st) (chk := chk) (hst := hC.st) La Lb hla hlb
  have mAB := fun W (h : Below w.heap.size w W) => merge_any hC A B ca cb la lb W (Kd.C_below ha h) hca (Kd.C_below hb h) hcb (hC.keep _ _ hGw h)
  have mBA := fun W (h : Below w.heap.size w W) => merge_any hC B A cb ca lb la W (Kd.C_below hb h) hcb (Kd.C_below ha h) hca (hC.keep _ _ hGw h)
  rw [← q1] at mBA
  obtain ⟨r, hr⟩ : ∃ r, Ldg.mergeR st chk la lb = r := ⟨_, rfl⟩
  have hp0 : Ldg.puts st chk la lb = r := by rw [← q2, hr]
  rw [hr] at mAB mBA q3 q4
  have Hp0 := Lib.hid hp0
  clear hp0 q1 q2 hr
  cases r with
  | error z =>
    obtain rfl := q3 z rfl
    clear q3 q4
    have cE := fun W => same_yes none none 0 0 [] W (nil_C W) (nil_C W)
    go_wp2_with (first
      | (go_at_call 10; refine (mBA _ hB6).mono ?_; rintro e W7 ⟨h7, rfl⟩; have hB7 := tr2 hB6 h7)
      | (go_at_call 10; refine (mAB _ hB5).mono ?_; rintro e W6 ⟨h6, rfl⟩; have hB6 := tr2 hB5 h6)
      | (go_at_call 9; refine (dB _ hB4).mono ?_; rintro e W5 ⟨rfl, h5⟩; have hB5 := tr2 hB4 h5)
      | (go_at_call 9; refine (dA _ hB3).mono ?_; rintro e W4 ⟨rfl, h4⟩; have hB4 := tr2 hB3 h4)
      | (go_at_call 8; refine (cB _ hB2).mono ?_; rintro e W3 ⟨rfl, h3⟩; have hB3 := tr2 hB2 h3)
      | (go_at_call 8; refine (cA _ hB1).mono ?_; rintro e W2 ⟨rfl, h2⟩; have hB2 := tr2 hB1 h2)
      | (go_at_call 7; refine cS.mono ?_; rintro e W1 ⟨rfl, hB1⟩))
    go_loopw [9, 10, 11] (fun z g i wr => ∃ k : Nat, k ≤ lb.length ∧ i = .int .i64 k ∧ Below W7.heap.size W7 wr ∧ MLoop chk (.error 390) (lb.drop k) z g wr) (fun _ _ i _ => lb.length - (intOf i).toNat)
    case atStart => exact ⟨0, Nat.zero_le _, rfl, Below.refl _ _, .inl ⟨A, la, ca, rfl, rfl, hca, Kd.C_below ha hB7, by simpa using Hp0.out⟩⟩
    case round =>
      obtain ⟨k, hk, rfl, hB, hm⟩ := hrel
      have hBw := tr2 hB7 hB
      rcases hm with ⟨Z, zl, cz, rfl, rfl, hcz, hZ, hp⟩ | ⟨rfl, rfl, _⟩
      · by_cases hlt : k < lb.length
        · obtain ⟨ad, cs, rfl, hK, hcell⟩ := ent_at hb k hlt
          have hcw : ∀ j u, cs[j]? = some u → wr.cell? ((ad.add (k * 31)).add j) = some u := fun j u hu => pw_cell_below hBw (hcell j u hu)
          have hsz : (Tryz.prog.info? 48).map (·.size) = some cs.length := by rw [k48_len hK]; exact info48
          have hput := put_any hC Z cz zl lb[k] cs wr hZ hcz (k48.K_below hBw hK) (hC.keep _ _ hGw hBw)
          rw [List.drop_eq_getElem_cons hlt, Ldg.puts] at hp
          obtain ⟨p, hpp⟩ : ∃ p, Ldg.putR st chk zl lb[k] = p := ⟨_, rfl⟩
          rw [hpp] at hput hp
          have HB := Lib.hid hB
          clear hpp hB hBw hcell
          cases p with
          | error z =>
            obtain rfl : z = 390 := by simpa using hp
            clear hp
            go_wp2_with (first
              | (go_at_call 11; refine hput.mono ?_; rintro e V ⟨hV, rfl⟩)
              | (refine wpList_load_at rfl 48 _ rfl (ad.add (k * 31)) rfl cs _ hcw Tryz.underlying48 rfl hsz ?_))
            go_roundw
            case rel => exact ⟨k + 1, by omega, by go_num, tr2 HB.out hV, .inr ⟨rfl, rfl, rfl⟩⟩
            case measure => simp [intOf]; omega
          | ok zl' =>
            have Hp : Hid (Ldg.puts st chk zl' (List.drop (k + 1) lb) = .error 390) := Lib.hid hp
            clear hp
            go_wp2_with (first
              | (go_at_call 11; refine hput.mono ?_; rintro e V ⟨hV, Z', cz', rfl, hl', hC'⟩)
              | (refine wpList_load_at rfl 48 _ rfl (ad.add (k * 31)) rfl cs _ hcw Tryz.underlying48 rfl hsz ?_))
            go_roundw
            case rel => exact ⟨k + 1, by omega, by go_num, tr2 HB.out hV, .inl ⟨Z', zl', cz', rfl, rfl, hl', hC', Hp.out⟩⟩
            case measure => simp [intOf]; omega
        · rw [List.drop_eq_nil_of_le (by omega)] at hp
          cases hp
      · by_cases hlt : k < lb.length
        all_goals
          go_wp2_with (go_at_call 12; refine (cE _).mono ?_; rintro e V ⟨rfl, hV⟩)
          go_ret
          exact ⟨by first | rfl | simp, tr2 hBw hV⟩
  | ok x =>
    obtain ⟨hmx, Lx, hlx⟩ := q4 x rfl
    clear q3 q4
    have ezx := (Ldg.checkR_zero (st := st) (chk := chk) hC.st).2 Lx
    have e1 : IntKind.i64.wrap ((la.length : Int) + lb.length) = la.length + lb.length := IntWalk.i64_in _ (by omega)
    have e2 : decide ((x.length : Int) ≤ la.length + lb.length) = true := by simp only [decide_eq_true_eq]; omega
    have E1 := Lib.hid e1
    have E2 := Lib.hid e2
    clear e1 e2
    go_wp2_with (first
      | (go_at_call 10; refine (mBA _ hB6).mono ?_; rintro e W7 ⟨h7, X2, x2, rfl, l2, C2⟩; have hB7 := tr2 hB6 h7)
      | (go_at_call 10; refine (mAB _ hB5).mono ?_; rintro e W6 ⟨h6, X1, x1, rfl, l1, C1⟩; have hB6 := tr2 hB5 h6)
      | (go_at_call 9; refine (dB _ hB4).mono ?_; rintro e W5 ⟨rfl, h5⟩; have hB5 := tr2 hB4 h5)
      | (go_at_call 9; refine (dA _ hB3).mono ?_; rintro e W4 ⟨rfl, h4⟩; have hB4 := tr2 hB3 h4)
      | (go_at_call 8; refine (cB _ hB2).mono ?_; rintro e W3 ⟨rfl, h3⟩; have hB3 := tr2 hB2 h3)
      | (go_at_call 8; refine (cA _ hB1).mono ?_; rintro e W2 ⟨rfl, h2⟩; have hB2 := tr2 hB1 h2)
      | (go_at_call 7; refine cS.mono ?_; rintro e W1 ⟨rfl, hB1⟩))
    have D1 := Kd.C_below C1 h7
    go_loopw [9, 10, 11] (fun z g i wr => ∃ k : Nat, k ≤ lb.length ∧ i = .int .i64 k ∧ Below W7.heap.size W7 wr ∧ MLoop chk (.ok x) (lb.drop k) z g wr) (fun _ _ i _ => lb.length - (intOf i).toNat)
    case atStart => exact ⟨0, Nat.zero_le _, rfl, Below.refl _ _, .inl ⟨A, la, ca, rfl, rfl, hca, Kd.C_below ha hB7, by simpa using Hp0.out⟩⟩
    case round =>
      obtain ⟨k, hk, rfl, hB, hm⟩ := hrel
      have hBw := tr2 hB7 hB
      rcases hm with ⟨Z, zl, cz, rfl, rfl, hcz, hZ, hp⟩ | ⟨_, _, hbad⟩
      · by_cases hlt : k < lb.length
        · obtain ⟨ad, cs, rfl, hK, hcell⟩ := ent_at hb k hlt
          have hcw : ∀ j u, cs[j]? = some u → wr.cell? ((ad.add (k * 31)).add j) = some u := fun j u hu => pw_cell_below hBw (hcell j u hu)
          have hsz : (Tryz.prog.info? 48).map (·.size) = some cs.length := by rw [k48_len hK]; exact info48
          have hput := put_any hC Z cz zl lb[k] cs wr hZ hcz (k48.K_below hBw hK) (hC.keep _ _ hGw hBw)
          rw [List.drop_eq_getElem_cons hlt, Ldg.puts] at hp
          obtain ⟨p, hpp⟩ : ∃ p, Ldg.putR st chk zl lb[k] = p := ⟨_, rfl⟩
          rw [hpp] at hput hp
          have HB := Lib.hid hB
          have Hmx := Lib.hid hmx
          have Hezx := Lib.hid ezx
          clear hpp hB hBw hcell hmx ezx
          cases p with
          | error z => cases hp
          | ok zl' =>
            have Hp : Hid (Ldg.puts st chk zl' (List.drop (k + 1) lb) = .ok x) := Lib.hid hp
            clear hp
            go_wp2_with (first
              | (go_at_call 11; refine hput.mono ?_; rintro e V ⟨hV, Z', cz', rfl, hl', hC'⟩)
              | (refine wpList_load_at rfl 48 _ rfl (ad.add (k * 31)) rfl cs _ hcw Tryz.underlying48 rfl hsz ?_))
            go_roundw
            case rel => exact ⟨k + 1, by omega, by go_num, tr2 HB.out hV, .inl ⟨Z', zl', cz', rfl, rfl, hl', hC', Hp.out⟩⟩
            case measure => simp [intOf]; omega
        · rw [List.drop_eq_nil_of_le (by omega)] at hp
          obtain rfl : zl = x := by simpa [Ldg.puts] using hp
          clear hp
          have s1 := same_yes X1 X2 x1 x2 zl wr (Kd.C_below D1 hB) (Kd.C_below C2 hB)
          have mX := fun V (h : Below wr.heap.size wr V) => merge_any hC X1 B x1 cb zl lb V (Kd.C_below D1 (tr2 hB h)) l1 (Kd.C_below hb (tr2 hBw h)) hcb (hC.keep _ _ hGw (tr2 hBw h))
          have s2 := fun V (h : Below wr.heap.size wr V) => same_yes X1 Z x1 cz zl V (Kd.C_below D1 (tr2 hB h)) (Kd.C_below hZ h)
          have s3 := fun X5 x5 V V' (h5 : Kd.C k48 V X5 zl.length zl) (h : Below V.heap.size V V') (k : Below wr.heap.size wr V') => same_yes X5 X1 x5 x1 zl V' (Kd.C_below h5 h) (Kd.C_below D1 (tr2 hB k))
          have kX := fun V (h : Below wr.heap.size wr V) => check_any hC X1 x1 zl V (Kd.C_below D1 (tr2 hB h)) (hC.keep _ _ hGw (tr2 hBw h))
          rw [hmx] at mX
          rw [ezx] at kX
          have e1 := E1.out
          have e2 := E2.out
          clear hmx ezx
          go_wp2_with (first
            | (go_at_call 9; refine (kX _ hV4).mono ?_; rintro e V5 ⟨rfl, g5⟩; have hV5 := tr2 hV4 g5)
            | (go_at_call 12; refine (s3 X5 x5 _ _ C5 g3 hV3).mono ?_; rintro e V4 ⟨rfl, g4⟩; have hV4 := tr2 hV3 g4)
            | (go_at_call 12; refine (s2 _ hV2).mono ?_; rintro e V3 ⟨rfl, g3⟩; have hV3 := tr2 hV2 g3)
            | (go_at_call 10; refine (mX _ hV1).mono ?_; rintro e V2 ⟨g2, X5, x5, rfl, l5, C5⟩; have hV2 := tr2 hV1 g2)
            | (go_at_call 12; refine s1.mono ?_; rintro e V1 ⟨rfl, hV1⟩))
          go_ret
          exact ⟨by first | rfl | simp, tr2 hBw hV5⟩
      · cases hbad
end Go.Proofs.Lw
end
